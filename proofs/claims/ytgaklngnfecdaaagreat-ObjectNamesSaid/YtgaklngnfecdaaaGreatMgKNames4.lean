import Derived.Test.YtgaklngnfecdaaaGreatMgKNames3
import Derived.Test.YtgaklngnfecdaaaGreatMgKNames2
import Derived.Maps.Views
import Derived.StringKeys
import Derived.Shelf.Bytes.SlIndexAt
import Derived.Laws.Small

/-
  Reading a commit.
-/
namespace Go.Proofs.YtgaklngnfecdaaaGreat.Rev
open Go.RowKit Zk Zx
open Oid (idf hexL idf_len readR)
open Tre (nmOk)
set_option linter.unusedVariables false
set_option linter.unusedSimpArgs false

/-- The parents' lines, by so many steps at most. -/
def parsR : Nat → List UInt8 → Option (List Oid.Id × List UInt8)
  | 0, s => some ([], s)
  | k + 1, s => if preP s (wParent ++ [32]) then (match idR wParent s with
      | none => none
      | some (p, b) => (parsR k b).map fun q => (p :: q.1, q.2)) else some ([], s)
theorem parsR_end {m : Nat} {s : List UInt8} (h : ¬ preP s (wParent ++ [32])) : parsR m s = some ([], s) := by
  cases m with
  | zero => rfl
  | succ m => rw [parsR, if_neg h]
theorem parsR_bad {m : Nat} {s : List UInt8} (h : preP s (wParent ++ [32])) (hi : idR wParent s = none) : parsR (m + 1) s = none := by rw [parsR, if_pos h, hi]
theorem parsR_step {m : Nat} {s b : List UInt8} {p : Oid.Id} (h : preP s (wParent ++ [32])) (hi : idR wParent s = some (p, b)) : parsR (m + 1) s = (parsR m b).map fun q => (p :: q.1, q.2) := by rw [parsR, if_pos h, hi]
theorem idR_len {w s b : List UInt8} {p : Oid.Id} (h : idR w s = some (p, b)) : b.length < s.length := by
  unfold idR at h
  split at h
  · cases h
  · rename_i a b' hl
    have := lineR_len hl
    split at h
    · cases h
      omega
    · cases h
theorem numbR_len {w s b : List UInt8} {p : Nat} (h : numbR w s = some (p, b)) : b.length < s.length ∧ p < 1000000000000000 := by
  unfold numbR at h
  split at h
  · cases h
  · rename_i a b' hl
    have := lineR_len hl
    split at h
    · rename_i hn
      cases h
      refine ⟨by omega, ?_⟩
      unfold numOk at hn
      rw [Bool.and_eq_true, decide_eq_true_eq] at hn
      have h1 := numV_lt a hn.2
      have h2 : 10 ^ a.length ≤ 10 ^ 15 := Nat.pow_le_pow_right (by omega) hn.1.2.1
      have h3 : (10 : Nat) ^ 15 = 1000000000000000 := by decide
      omega
    · cases h
/-- What the lines of a commit say. -/
structure CmL where
  tr : Oid.Id
  ps : List Oid.Id
  au : List UInt8
  tm : Nat
  tx : List UInt8
def cmOf (y : CmL) (A : Option Addr) (n c : Nat) : Cm := ⟨y.tr, A, n, c, y.ps, ⟨y.au.toArray⟩, (y.tm : Int), ⟨y.tx.toArray⟩⟩
def getR (s : List UInt8) : Option CmL :=
  (idR wTree s).bind fun t => (parsR (s.length + 1) t.2).bind fun p => (lineR wAuthor p.2).bind fun a => (numbR wTime a.2).bind fun n => (textR n.2).map fun x => ⟨t.1, p.1, a.1, n.1, x⟩
theorem g1 {s : List UInt8} (h : idR wTree s = none) : getR s = none := by unfold getR; rw [h]; rfl
theorem cmf_sz (x : Cm) : (cmf x).toArray.size = 36 := by rw [List.size_toArray, cmf_len]
theorem st_tree (x : Cm) (t : Oid.Id) : ((cmf x).toArray.toList.take 0 ++ (idf t).toArray.toList ++ (cmf x).toArray.toList.drop (0 + (idf t).toArray.size)).toArray = (cmf { x with tr := t }).toArray := by
  simp only [List.take_zero, List.nil_append, List.size_toArray, idf_len, Nat.zero_add]
  congr 1
  show idf t ++ (cmf x).drop 32 = _
  unfold cmf
  rw [List.drop_append_of_le_length (by rw [idf_len]; omega), List.drop_of_length_le (by rw [idf_len]; omega), List.nil_append]
theorem st_at (x : Cm) (k : Nat) (v : Value) (hk : k < 4) : (cmf x).toArray.setIfInBounds (32 + k) v = (idf x.tr ++ [Value.slice x.A x.n x.c, .string x.au, .int .i64 x.tm, .string x.tx].set k v).toArray := by
  rw [List.setIfInBounds_toArray]
  congr 1
  unfold cmf
  rw [List.set_append_right _ _ (by rw [idf_len]; omega), idf_len, show 32 + k - 32 = k by omega]
theorem st32 (x : Cm) (A : Option Addr) (n c : Nat) : (cmf x).toArray.setIfInBounds 32 (.slice A n c) = (cmf { x with A := A, n := n, c := c }).toArray := st_at x 0 _ (by omega)
theorem st33 (x : Cm) (v : ByteArray) : (cmf x).toArray.setIfInBounds 33 (.string v) = (cmf { x with au := v }).toArray := st_at x 1 _ (by omega)
theorem st34 (x : Cm) (v : Int) : (cmf x).toArray.setIfInBounds 34 (.int .i64 v) = (cmf { x with tm := v }).toArray := st_at x 2 _ (by omega)
theorem st35 (x : Cm) (v : ByteArray) : (cmf x).toArray.setIfInBounds 35 (.string v) = (cmf { x with tx := v }).toArray := st_at x 3 _ (by omega)
/-- Behind the closure that recovered: what the reader has become. -/
theorem st_pan {w0 w w' : World} {M : Nat → Prop} {r b c b' c' : Res} (S : St w0 M [r, b, c] w) (T : Turned w w' (both b c) (both b' c')) : St w0 M [r, both b' c'] w' := (St.join2 (rs := [r]) S).turn 1 rfl T
theorem g2 {s s1 : List UInt8} {t : Oid.Id} (h : idR wTree s = some (t, s1)) (hp : parsR (s.length + 1) s1 = none) : getR s = none := by unfold getR; rw [h]; simp [hp]
theorem g3 {s s1 s2 : List UInt8} {t : Oid.Id} {ps : List Oid.Id} (h : idR wTree s = some (t, s1)) (hp : parsR (s.length + 1) s1 = some (ps, s2)) (ha : lineR wAuthor s2 = none) : getR s = none := by unfold getR; rw [h]; simp [hp, ha]
theorem g4 {s s1 s2 s3 a : List UInt8} {t : Oid.Id} {ps : List Oid.Id} (h : idR wTree s = some (t, s1)) (hp : parsR (s.length + 1) s1 = some (ps, s2)) (ha : lineR wAuthor s2 = some (a, s3)) (hn : numbR wTime s3 = none) : getR s = none := by unfold getR; rw [h]; simp [hp, ha, hn]
theorem g5 {s s1 s2 s3 s4 a : List UInt8} {t : Oid.Id} {ps : List Oid.Id} {n : Nat} (h : idR wTree s = some (t, s1)) (hp : parsR (s.length + 1) s1 = some (ps, s2)) (ha : lineR wAuthor s2 = some (a, s3)) (hn : numbR wTime s3 = some (n, s4)) (hx : textR s4 = none) : getR s = none := by unfold getR; rw [h]; simp [hp, ha, hn, hx]
theorem g6 {s s1 s2 s3 s4 a x : List UInt8} {t : Oid.Id} {ps : List Oid.Id} {n : Nat} (h : idR wTree s = some (t, s1)) (hp : parsR (s.length + 1) s1 = some (ps, s2)) (ha : lineR wAuthor s2 = some (a, s3)) (hn : numbR wTime s3 = some (n, s4)) (hx : textR s4 = some x) : getR s = some ⟨t, ps, a, n, x⟩ := by unfold getR; rw [h]; simp [hp, ha, hn, hx]
theorem map_step {o : Option (List Oid.Id × List UInt8)} (ps : List Oid.Id) (p : Oid.Id) : (o.map fun q => (p :: q.1, q.2)).map (fun q => (ps ++ q.1, q.2)) = o.map fun q => ((ps ++ [p]) ++ q.1, q.2) := by cases o <;> simp
theorem St.ownM {w0 w : World} {M : Nat → Prop} {rs : List Res} (S : Zx.St w0 M rs w) (j k : Nat) {r : Res} (hj : rs[j]? = some r) (hjk : Nat.beq j k = false) (hM : ∀ i, M i → r.dom i) {e size n c : Nat} {A : Option Addr} {xs : List Value} (hk : rs[k]? = some (Zx.row e size A n c xs)) : w.ownsRow w0.heap.size e size (.slice A n c) n xs := by
  have h : w.ownsRow 0 e size (.slice A n c) n xs := S.get k hk
  refine ⟨h.1, h.2.imp id fun ⟨g, cap, cur, h1, _, h3⟩ => ⟨g, cap, cur, h1, ?_, h3⟩⟩
  have hd : (Zx.row e size A n c xs).dom g := by simp only [Zx.row]; rw [h1]; rfl
  rcases ((S.res _ (List.mem_of_getElem? hk)).2 g hd).2 with h | h
  · exact h
  · exact (St.apart_ S j k hj hk hjk g (hM g h) hd).elim
theorem lineR_len2 {w s a b : List UInt8} (h : lineR w s = some (a, b)) : b.length < s.length := by have := lineR_len h; omega


set_option maxRecDepth 100000 in
theorem readr (g : Nat) (s : List UInt8) (w0 : World) (hw : (rdR g s).holds w0) (hl : s.length ≤ 100000) :
    Calls Tryz.prog 108 #[.pointer (some ⟨g, 0, none⟩)] w0 fun e w' => ∃ u, e = .returned u ∧ ∃ s', Turned w0 w' (rdR g s) (rdR g s') ∧ ((getR s = none ∧ u = .tuple #[.agg (cmf zCm).toArray, .int .i64 12]) ∨ ∃ y A n c, getR s = some y ∧ n = y.ps.length ∧ Fr w0 w' 32 A n c (y.ps.flatMap idf) ∧ u = .tuple #[.agg (cmf (cmOf y A n c)).toArray, .int .i64 0]) := by
  refine enterD1 (env := [(0, .pointer (some ⟨g, 0, none⟩))]) [.pointer (some ⟨g, 0, none⟩)] Tryz.func108 rfl Tryz.ntmps108 rfl rfl ?_
  have S0 := St.borrow1 (rdR g s) hw (rd_lt hw)
  refine T_seq fun K1 hK1 => ?_
  refine T_region ?_
  refine L_o (o_alloc zz83 S0 rfl fun b1 w1 hb1 S1 => ?_)
  refine L_o (o_alloc zz24 S1 rfl fun b2 w2 hb2 S2 => ?_)
  have S3 : Zx.St w0 (rdR g s).dom [rdR g s, blk b1 83 (cmf zCm).toArray, blk b2 24 #[Value.int .i64 0]] w2 := S2.cast (by kernel_rfl)
  have hne : b1 ≠ b2 := fun e => St.apart_ S3 1 2 rfl rfl rfl b1 rfl e
  refine L_nil ?_
  refine hK1 _ _ ?_
  refine T_seq fun K2 hK2 => ?_
  refine T_region ?_
  refine L_y (y_makeFunc rfl rfl) rfl ?_
  refine L_deferV rfl ?_
  refine L_nil ?_
  refine hK2 _ _ ?_
  refine T_seq fun K3 hK3 => ?_
  refine T_region ?_
  refine L_y (y_move rfl) rfl ?_
  refine L_o (o_callP Tryz.func145 rfl rfl (idr g s wTree w2 (S3.get 0 rfl) (by decide) (by omega)) rfl rfl ?_)
  rintro e4 w4 (⟨rfl, s9, T4, hno⟩ | ⟨v4, rfl, t, s1, hid, T4, rfl⟩)
  · exact .inr ⟨_, rfl, read_pan rfl rfl rfl ((S3.turn 0 rfl T4).blk 1 rfl) (cmf_sz _) ((S3.turn 0 rfl T4).blk 2 rfl) hne (fun w' T' => ⟨_, rfl, _, (st_pan ((S3.turn 0 rfl T4).sel [0, 1, 2] (by decide)) T').turned1 0 rfl, .inl ⟨g1 hno, rfl⟩⟩)⟩
  refine .inl ⟨_, rfl, ?_⟩
  have S4 := S3.turn 0 rfl T4
  have hl1 := idR_len hid
  refine L_y (y_fieldA 0 Tryz.underlying83 rfl sz41 rfl rfl rfl) rfl ?_
  refine L_o (o_stR S4 1 rfl rfl rfl (by rw [List.size_toArray, idf_len]; exact sz41) (by rw [List.size_toArray, idf_len, cmf_sz]; omega) (fun u hu => bL_one _ u (by rw [List.toList_toArray] at hu; exact hu)) fun w5 S5 => ?_)
  have S6 := S5.blkc 1 rfl (st_tree _ _)
  refine L_nil ?_
  refine hK3 _ _ ?_
  refine T_seq fun K4 hK4 => ?_
  refine T_block ?_
  refine T_loop6 [(0, _), (2, _), (3, _), (1000000, .agg #[.agg #[.int .i64 144, .agg #[], .agg #[.pointer (some ⟨b1, 0, none⟩), .pointer (some ⟨b2, 0, none⟩)]]])] (fun (m : Nat) (s2 : List UInt8) (ps : List Oid.Id) (A : Option Addr) (n : Nat) (c : Nat) => [(1000000, .agg #[.agg #[.int .i64 144, .agg #[], .agg #[.pointer (some ⟨b1, 0, none⟩), .pointer (some ⟨b2, 0, none⟩)]]])]) (fun (m : Nat) (s2 : List UInt8) (ps : List Oid.Id) (A : Option Addr) (n : Nat) (c : Nat) => m) (fun (m : Nat) (s2 : List UInt8) (ps : List Oid.Id) (A : Option Addr) (n : Nat) (c : Nat) (w : World) => (n = ps.length ∧ s2.length < m ∧ ps.length + s2.length ≤ 100000 ∧ parsR (s.length + 1) s1 = (parsR m s2).map fun q => (ps ++ q.1, q.2)) ∧ Zx.St w0 (rdR g s).dom [rdR g s2, blk b1 83 (cmf (⟨t, A, n, c, [], ⟨#[]⟩, 0, ⟨#[]⟩⟩ : Cm)).toArray, blk b2 24 #[Value.int .i64 0], row 41 32 A n c (ps.flatMap idf)] w) (s.length + 1) s1 [] none 0 0 (Sub.dfr rfl) (Sub.cons rfl rfl (Sub.cons rfl rfl (Sub.cons rfl rfl (Sub.dfr rfl)))) ?_ ?_
  ·
    have S80 := S6.nilrow 41 32
    exact ⟨⟨rfl, by omega, by simp; omega, by cases parsR (s.length + 1) s1 <;> rfl⟩, S80⟩
  ·
    intro m s2 ps A n c w7 hrel
    obtain ⟨⟨hn, hm, hb, hps⟩, S7⟩ := hrel
    refine T_seq fun K5 hK5 => ?_
    refine T_seq fun K6 hK6 => ?_
    refine T_region ?_
    refine L_y (y_move rfl) rfl ?_
    refine L_o (o_call Tryz.func146 rfl rfl (next g s2 wParent w7 (S7.get 0 rfl) (by decide)) rfl rfl ?_)
    rintro e8 w8 ⟨v8, rfl, T8, rfl⟩
    refine ⟨_, rfl, ?_⟩
    have S8 := S7.turn 0 rfl T8
    refine L_nil ?_
    refine hK6 _ _ ?_
    refine T_cond rfl (fun h9 => ?_) (fun h9 => ?_)
    ·
      refine T_skip ?_
      refine hK5 _ _ ?_
      refine T_block ?_
      obtain ⟨m, rfl⟩ : ∃ k, m = k + 1 := ⟨m - 1, by omega⟩
      refine T_zed [0, 1, 2, 3, 4] 5 [(0, 1), (1, 1), (2, 1), (3, 2), (4, 2), (5, 3), (6, 3), (7, 3)] hmix (by kernel_rfl) fun w9 l9 => ?_
      have S9 := S8.like l9
      refine ZA_B (fun w => Blk w b1 83 (cmf (⟨t, A, n, c, [], ⟨#[]⟩, 0, ⟨#[]⟩⟩ : Cm)).toArray) (S9.blk 1 rfl) ?_
      refine ZB_y rfl (y_fieldA 32 Tryz.underlying83 rfl sz81 rfl rfl rfl) rfl ?_
      refine ZB_y rfl (y_of fun w hw => y_ldc Tryz.underlying81 rfl rfl ((hw.cell _).trans (cm32 _))) rfl ?_
      refine ZB_y rfl (y_move rfl) rfl ?_
      refine ZB_o rfl (o_callP Tryz.func145 rfl rfl (idr g s2 wParent w9 (S9.get 0 rfl) (by decide) (by omega)) rfl rfl ?_)
      rintro e10 w10 (⟨rfl, s9, T10, hno⟩ | ⟨v10, rfl, p, b4, hid4, T10, rfl⟩)
      · exact .inr ⟨_, rfl, read_pan rfl rfl rfl ((S9.turn 0 rfl T10).blk 1 rfl) (cmf_sz _) ((S9.turn 0 rfl T10).blk 2 rfl) hne (fun w' T' => ⟨_, rfl, _, (st_pan ((S9.turn 0 rfl T10).sel [0, 1, 2] (by decide)) T').turned1 0 rfl, .inl ⟨g2 hid (by rw [hps, parsR_bad h9 hno]; rfl), rfl⟩⟩)⟩
      refine .inl ⟨_, rfl, ?_⟩
      have S10 := S9.turn 0 rfl T10
      have hl4 := idR_len hid4
      refine ⟨(S10.blk 1 rfl), ?_⟩
      refine ZB_o rfl (o_bsl (idf p) te81 zz41 S10 rfl rfl rfl (by simp [Value.cells, idf_len]) (by simp [Value.cells]) rfl rfl rfl fun b11 w11 S11 => ?_)
      refine ⟨(S11.blk 1 rfl), ?_⟩
      refine ZB_c rfl (o_app te81 S11 3 rfl rfl rfl (by first | exact S11.row 0 rfl | exact S11.row 4 rfl) (fun u hu => bL_one _ u hu) rfl (by omega) (by omega) fun A12 c12 w12 S12 => ?_)
      have S12d := S12.drop (rs' := [_, _, _, _]) (.cons_cons _ (.cons_cons _ (.cons_cons _ (.cons_cons _ (.cons _ (.refl _))))))
      refine ZA_oy rfl (y_fieldA 32 Tryz.underlying83 rfl sz81 rfl rfl rfl) rfl ?_
      refine ZA_o rfl (o_st1 S12d 1 rfl rfl rfl rfl sz81 (by rw [cmf_sz]; omega) fun w13 S13 => ?_)
      have S14 := S13.blkc 1 rfl (st32 _ _ _ _)
      refine ZA_nil ?_
      have S9 := S14.rowc 3 rfl (n' := n + 1) (xs' := (ps ++ [p]).flatMap idf) rfl (by rw [List.flatMap_append]; simp; rfl)
      refine ⟨m, b4, ps ++ [p], _, _, _, by omega, ⟨⟨by rw [List.length_append, hn]; rfl, by omega, by rw [List.length_append]; simp only [List.length_cons, List.length_nil]; omega, by rw [hps, parsR_step h9 hid4, map_step]⟩, S9⟩, ?_⟩
      exact (Sub.app (Sub.dfr rfl) (Sub.cons rfl rfl (Sub.cons rfl rfl (Sub.cons rfl rfl (Sub.dfr rfl)))))
    ·
      have hp2 : parsR (s.length + 1) s1 = some (ps, s2) := by rw [hps, parsR_end h9]; simp
      refine T_exit ?_
      refine hK4 _ _ ?_
      refine T_seq fun K7 hK7 => ?_
      refine T_region ?_
      refine L_y (y_move rfl) rfl ?_
      refine L_o (o_callP Tryz.func147 rfl rfl (take g s2 wAuthor w8 (S8.get 0 rfl) (by decide) (by omega)) rfl rfl ?_)
      rintro e15 w15 (⟨rfl, T15, hno⟩ | ⟨v15, rfl, au, s3, hau, T15, rfl⟩)
      · exact .inr ⟨_, rfl, read_pan rfl rfl rfl ((S8.turn 0 rfl T15).blk 1 rfl) (cmf_sz _) ((S8.turn 0 rfl T15).blk 2 rfl) hne (fun w' T' => ⟨_, rfl, _, (st_pan ((S8.turn 0 rfl T15).sel [0, 1, 2] (by decide)) T').turned1 0 rfl, .inl ⟨g3 hid hp2 hno, rfl⟩⟩)⟩
      refine .inl ⟨_, rfl, ?_⟩
      have S15 := S8.turn 0 rfl T15
      have hl5 := lineR_len2 hau
      refine L_y (y_fieldA 33 Tryz.underlying83 rfl sz9 rfl rfl rfl) rfl ?_
      refine L_o (o_st1 S15 1 rfl rfl rfl rfl sz9 (by rw [cmf_sz]; omega) fun w16 S16 => ?_)
      have S17 := S16.blkc 1 rfl (st33 _ _)
      refine L_nil ?_
      refine hK7 _ _ ?_
      refine T_seq fun K8 hK8 => ?_
      refine T_region ?_
      refine L_y (y_move rfl) rfl ?_
      refine L_o (o_callP Tryz.func148 rfl rfl (numb g s3 wTime w16 (S17.get 0 rfl) (by decide) (by omega)) rfl rfl ?_)
      rintro e18 w18 (⟨rfl, s9, T18, hno⟩ | ⟨v18, rfl, tm, s4, htm, T18, rfl⟩)
      · exact .inr ⟨_, rfl, read_pan rfl rfl rfl ((S17.turn 0 rfl T18).blk 1 rfl) (cmf_sz _) ((S17.turn 0 rfl T18).blk 2 rfl) hne (fun w' T' => ⟨_, rfl, _, (st_pan ((S17.turn 0 rfl T18).sel [0, 1, 2] (by decide)) T').turned1 0 rfl, .inl ⟨g4 hid hp2 hau hno, rfl⟩⟩)⟩
      refine .inl ⟨_, rfl, ?_⟩
      have S18 := S17.turn 0 rfl T18
      have hl6 := (numbR_len htm).1
      refine L_y (y_fieldA 34 Tryz.underlying83 rfl sz3 rfl rfl rfl) rfl ?_
      refine L_o (o_st1 S18 1 rfl rfl rfl rfl sz3 (by rw [cmf_sz]; omega) fun w19 S19 => ?_)
      have S20 := S19.blkc 1 rfl (st34 _ _)
      refine L_nil ?_
      refine hK8 _ _ ?_
      refine T_seq fun K9 hK9 => ?_
      refine T_region ?_
      refine L_y (y_move rfl) rfl ?_
      refine L_o (o_callP Tryz.func149 rfl rfl (text_ g s4 w19 (S20.get 0 rfl)) rfl rfl ?_)
      rintro e21 w21 (⟨rfl, T21, hno⟩ | ⟨v21, rfl, tx, htx, T21, rfl⟩)
      · exact .inr ⟨_, rfl, read_pan rfl rfl rfl ((S20.turn 0 rfl T21).blk 1 rfl) (cmf_sz _) ((S20.turn 0 rfl T21).blk 2 rfl) hne (fun w' T' => ⟨_, rfl, _, (st_pan ((S20.turn 0 rfl T21).sel [0, 1, 2] (by decide)) T').turned1 0 rfl, .inl ⟨g5 hid hp2 hau htm hno, rfl⟩⟩)⟩
      refine .inl ⟨_, rfl, ?_⟩
      have S21 := S20.turn 0 rfl T21
      refine L_y (y_fieldA 35 Tryz.underlying83 rfl sz9 rfl rfl rfl) rfl ?_
      refine L_o (o_st1 S21 1 rfl rfl rfl rfl sz9 (by rw [cmf_sz]; omega) fun w22 S22 => ?_)
      have S23 := S22.blkc 1 rfl (st35 _ _)
      refine L_nil ?_
      refine hK9 _ _ ?_
      refine T_seq fun K10 hK10 => ?_
      refine T_region ?_
      refine L_y (y_ldW Tryz.underlying83 rfl sz83 rfl (S23.blk 1 rfl) (cm_whole _)) rfl ?_
      refine L_o (o_stW S23 1 rfl rfl rfl (by rw [cmf_sz]; exact sz83) (by rw [cmf_sz]) (fun u hu => cmf_one _ u (by rw [List.toList_toArray] at hu; exact hu)) fun w24 S24 => ?_)
      refine L_o (o_st1 S24 2 rfl rfl rfl rfl sz24 (by simp; done) fun w25 S25 => ?_)
      refine L_nil ?_
      refine hK10 _ _ ?_
      refine T_ret ?_
      repeat (first | with_reducible refine up_then ?_ | with_reducible refine up_in ?_)
      refine read_ret rfl rfl rfl (S25.blk 1 rfl) (cmf_sz _) (S25.blk 2 rfl) ?_
      intro w' l'
      exact ⟨_, rfl, _, (S25.like l').turned1 0 rfl, .inr ⟨⟨t, ps, au, tm, tx⟩, A, n, c, g6 hid hp2 hau htm htx, hn, Fr.of_own (St.ownM (S25.like l') 0 3 rfl rfl (fun i h => h) rfl), rfl⟩⟩
end Go.Proofs.YtgaklngnfecdaaaGreat.Rev


/-
  Get.
-/
namespace Go.Proofs.YtgaklngnfecdaaaGreat.Rev
open Go.RowKit Zk Zx
open Oid (idf hexL idf_len readR)
open Tre (nmOk)
set_option linter.unusedVariables false
set_option linter.unusedSimpArgs false

def zL : CmL := ⟨⟨List.replicate 32 0, rfl⟩, [], [], 0, []⟩
def cmO (y : CmL) : Cm := cmOf y none y.ps.length 0
def rval (s : List UInt8) : CmL := (getR s).getD zL
def rcode (s : List UInt8) : Int := if (getR s).isSome then 0 else 12
theorem zL_cm : cmOf zL none 0 0 = zCm := by kernel_rfl
theorem fr_nil (w0 w : World) (size : Nat) : Fr w0 w size none 0 0 [] := ⟨Rs.nil w size, fun ad h => absurd h (by omega)⟩
theorem St.newF {w0 w w' : World} {M : Nat → Prop} {rs : List Res} (S : Zx.St w0 M rs w) (k : Nat) {r r' : Res} (hk : rs[k]? = some r) (h : Turned w w' r r') (hdom : ∀ i, r'.dom i → r.dom i) {size n c : Nat} {A : Option Addr} {xs : List Value} (hf : Fr w w' size A n c xs) : Zx.St w0 M (rs.set k r' ++ [fixed size A n c xs]) w' :=
  St.newT S k hk h hdom hf.1 fun i ⟨ad, hn, hA, hi⟩ => by
    subst hi
    obtain ⟨ad', hA', hb, _⟩ := hf.1.rd.2 hn
    rw [hA] at hA'
    cases hA'
    exact ⟨hf.2 ad hn hA, hb⟩
/-- What Get answers. -/
def gcode (s : List UInt8) : Int := match getR s with
  | none => 12
  | some y => chk (cmO y)
def gval (s : List UInt8) : CmL := match getR s with
  | none => zL
  | some y => if chk (cmO y) = 0 then y else zL
theorem readr' (g : Nat) (s : List UInt8) (w0 : World) (hw : (rdR g s).holds w0) (hl : s.length ≤ 100000) :
    Calls Tryz.prog 108 #[.pointer (some ⟨g, 0, none⟩)] w0 fun e w' => ∃ u, e = .returned u ∧ ∃ s' A c, Turned w0 w' (rdR g s) (rdR g s') ∧ Fr w0 w' 32 A (rval s).ps.length c ((rval s).ps.flatMap idf) ∧ u = .tuple #[.agg (cmf (cmOf (rval s) A (rval s).ps.length c)).toArray, .int .i64 (rcode s)] :=
  (readr g s w0 hw hl).mono fun e w' ⟨u, he, s', T, h⟩ => ⟨u, he, by
    rcases h with ⟨h1, h2⟩ | ⟨y, A, n, c, h1, h2, h3, h4⟩
    · refine ⟨s', none, 0, T, ?_⟩
      rw [show rval s = zL by rw [rval, h1]; rfl, show rcode s = 12 by rw [rcode, h1]; rfl]
      exact ⟨fr_nil _ _ _, by rw [h2]; exact congrArg (fun x => Value.tuple #[.agg (cmf x).toArray, .int .i64 12]) zL_cm.symm⟩
    · refine ⟨s', A, c, T, ?_⟩
      rw [show rval s = y by rw [rval, h1]; rfl, show rcode s = 0 by rw [rcode, h1]; rfl]
      subst h2
      exact ⟨h3, h4⟩⟩
theorem rcode_0 {s : List UInt8} (h : rcode s = 0) : getR s = some (rval s) := by
  unfold rcode at h
  unfold rval
  cases e : getR s with
  | none => rw [e] at h; cases h
  | some y => rfl
theorem rcode_n {s : List UInt8} (h : ¬ rcode s = 0) : getR s = none ∧ rcode s = 12 := by
  unfold rcode at h ⊢
  cases e : getR s with
  | none => exact ⟨rfl, rfl⟩
  | some y => rw [e] at h; exact absurd rfl h
theorem go_some {s : List UInt8} {y : CmL} (h : getR s = some y) : gcode s = chk (cmO y) ∧ gval s = if chk (cmO y) = 0 then y else zL := by unfold gcode gval; rw [h]; exact ⟨rfl, rfl⟩
theorem go_none {s : List UInt8} (h : getR s = none) : gcode s = 12 ∧ gval s = zL := by unfold gcode gval; rw [h]; exact ⟨rfl, rfl⟩


set_option maxRecDepth 100000 in
theorem get (B : Option Addr) (m d : Nat) (s : List UInt8) (w0 : World) (hb : Rs w0 1 B m d (bL s)) (hl : s.length ≤ 2000) :
    Calls Tryz.prog 74 #[.slice B m d] w0 fun e w' => ∃ u, e = .returned u ∧ Like w0 w' ∧ ∃ A c, Fr w0 w' 32 A (gval s).ps.length c ((gval s).ps.flatMap idf) ∧ u = .tuple #[.agg (cmf (cmOf (gval s) A (gval s).ps.length c)).toArray, .int .i64 (gcode s)] := by
  refine enter1 (env := [(0, .slice B m d)]) [.slice B m d] Tryz.func74 rfl Tryz.ntmps74 rfl rfl ?_
  have S0 := St.start w0 noM
  refine T_seq fun K1 hK1 => ?_
  refine T_region ?_
  refine L_o (o_alloc zz83 S0 rfl fun b1 w1 hb1 S1 => ?_)
  refine L_y (y_assign rfl) rfl ?_
  refine L_nil ?_
  refine hK1 _ _ ?_
  refine T_seq fun K2 hK2 => ?_
  refine T_region ?_
  refine L_y (y_move rfl) rfl ?_
  refine L_y (y_bstr Tryz.underlying22 Tryz.underlying5 Tryz.underlying9 rfl (by first | exact S1.rd hb)) rfl ?_
  refine L_y (y_build rfl (show _ = some #[Value.string ⟨s.toArray⟩] by kernel_rfl)) rfl ?_
  refine L_o (o_box rfl S1 rfl fun b2 w2 hb2 S2 => ?_)
  have S3 : Zx.St w0 noM [blk b1 83 (cmf zCm).toArray, rdR b2 s] w2 := S2.cast (by kernel_rfl)
  refine L_y (y_assign rfl) rfl ?_
  refine L_nil ?_
  refine hK2 _ _ ?_
  refine T_seq fun K3 hK3 => ?_
  refine T_region ?_
  refine L_y (y_move rfl) rfl ?_
  refine L_o (o_call Tryz.func108 rfl rfl (readr' b2 s w2 (S3.get 1 rfl) (by omega)) rfl rfl ?_)
  rintro e4 w4 ⟨v4, rfl, s9, A, c, T4, hf4, rfl⟩
  refine ⟨_, rfl, ?_⟩
  have S4 := S3.turn 1 rfl T4
  have S5 := St.newF S3 1 rfl T4 (fun i hi => hi) hf4
  refine L_y (y_move rfl) rfl ?_
  refine L_y (y_extract rfl rfl) rfl ?_
  refine L_y (y_extract rfl rfl) rfl ?_
  refine L_o (o_alloc zz83 S5 rfl fun b6 w6 hb6 S6 => ?_)
  refine L_o (o_stW S6 3 rfl rfl rfl (by rw [cmf_sz]; exact sz83) (by first | (rw [cmf_sz]; done) | (rw [cmf_sz]; rfl)) (fun u hu => cmf_one _ u (by rw [List.toList_toArray] at hu; exact hu)) fun w7 S7 => ?_)
  refine L_y (y_assign rfl) rfl ?_
  refine L_nil ?_
  refine hK3 _ _ ?_
  refine T_seq fun K4 hK4 => ?_
  refine T_seq fun K5 hK5 => ?_
  refine T_region ?_
  refine L_y (y_move rfl) rfl ?_
  refine L_y (y_eql rfl rfl) rfl ?_
  refine L_nil ?_
  refine hK5 _ _ ?_
  refine T_cond rfl (fun h17 => ?_) (fun h17 => ?_)
  ·
    have hg := rcode_0 h17
    refine T_region ?_
    refine L_y (y_ldW Tryz.underlying83 rfl sz83 rfl (S7.blk 3 rfl) (cm_whole _)) rfl ?_
    refine L_o (o_call Tryz.func109 rfl rfl (check (cmOf (rval s) A _ c) w7 (S7.fix 2 rfl)) rfl rfl ?_)
    rintro e8 w8 ⟨v8, rfl, l8, rfl⟩
    refine ⟨_, rfl, ?_⟩
    have S8 := S7.like l8
    refine L_y (y_assign rfl) rfl ?_
    refine L_nil ?_
    refine hK4 _ _ ?_
    refine T_seq fun K6 hK6 => ?_
    refine T_seq fun K7 hK7 => ?_
    refine T_region ?_
    refine L_y (y_move rfl) rfl ?_
    refine L_y (y_neq rfl rfl) rfl ?_
    refine L_nil ?_
    refine hK7 _ _ ?_
    refine T_cond rfl (fun h21 => ?_) (fun h21 => ?_)
    ·
      refine T_seq fun K8 hK8 => ?_
      refine T_region ?_
      refine L_y (y_build rfl (show _ = some (cmf zCm).toArray by kernel_rfl)) rfl ?_
      refine L_y (y_move rfl) rfl ?_
      refine L_o (o_stW S8 0 rfl rfl rfl (by rw [cmf_sz]; exact sz83) (by first | (rw [cmf_sz]; done) | (rw [cmf_sz]; rfl)) (fun u hu => cmf_one _ u (by rw [List.toList_toArray] at hu; exact hu)) fun w9 S9 => ?_)
      refine L_y (y_assign rfl) rfl ?_
      refine L_nil ?_
      refine hK8 _ _ ?_
      refine T_ret ?_
      repeat (first | with_reducible refine up_then ?_ | with_reducible refine up_in ?_)
      refine retct rfl rfl rfl (S9.blk 0 rfl) Tryz.underlying83 rfl (by rw [cmf_sz]; exact sz83) ?_
      have hgo := go_some hg
      have hgc : chk (cmOf (rval s) A (rval s).ps.length c) = chk (cmO (rval s)) := rfl
      have hv : gval s = zL := by rw [hgo.2, if_neg (fun e => h21 (hgc.trans e))]
      rw [hv, hgo.1]
      refine ⟨_, rfl, S9.like0, none, 0, fr_nil _ _ _, ?_⟩
      exact congrArg (fun x => Value.tuple #[.agg (cmf x).toArray, _]) zL_cm.symm
    ·
      refine T_skip ?_
      refine hK6 _ _ ?_
      refine T_seq fun K9 hK9 => ?_
      refine T_region ?_
      refine L_y (y_ldW Tryz.underlying83 rfl sz83 rfl (S8.blk 3 rfl) (cm_whole _)) rfl ?_
      refine L_o (o_stW S8 0 rfl rfl rfl (by rw [cmf_sz]; exact sz83) (by first | (rw [cmf_sz]; done) | (rw [cmf_sz]; rfl)) (fun u hu => cmf_one _ u (by rw [List.toList_toArray] at hu; exact hu)) fun w10 S10 => ?_)
      refine L_y (y_assign rfl) rfl ?_
      refine L_nil ?_
      refine hK9 _ _ ?_
      refine T_ret ?_
      repeat (first | with_reducible refine up_then ?_ | with_reducible refine up_in ?_)
      refine retct rfl rfl rfl (S10.blk 0 rfl) Tryz.underlying83 rfl (by rw [cmf_sz]; exact sz83) ?_
      have hgo := go_some hg
      have hgc : chk (cmOf (rval s) A (rval s).ps.length c) = chk (cmO (rval s)) := rfl
      have h0 : chk (cmO (rval s)) = 0 := Classical.byContradiction fun e => h21 e
      have hv : gval s = rval s := by rw [hgo.2, if_pos h0]
      rw [hv, hgo.1, h0]
      exact ⟨_, rfl, S10.like0, A, c, S10.fr 2 rfl, rfl⟩
  ·
    have hg := rcode_n h17
    refine T_skip ?_
    refine hK4 _ _ ?_
    refine T_seq fun K10 hK10 => ?_
    refine T_seq fun K11 hK11 => ?_
    refine T_region ?_
    refine L_y (y_move rfl) rfl ?_
    refine L_y (y_neq rfl rfl) rfl ?_
    refine L_nil ?_
    refine hK11 _ _ ?_
    refine T_cond rfl (fun h21 => ?_) (fun h21 => ?_)
    ·
      refine T_seq fun K12 hK12 => ?_
      refine T_region ?_
      refine L_y (y_build rfl (show _ = some (cmf zCm).toArray by kernel_rfl)) rfl ?_
      refine L_y (y_move rfl) rfl ?_
      refine L_o (o_stW S7 0 rfl rfl rfl (by rw [cmf_sz]; exact sz83) (by first | (rw [cmf_sz]; done) | (rw [cmf_sz]; rfl)) (fun u hu => cmf_one _ u (by rw [List.toList_toArray] at hu; exact hu)) fun w11 S11 => ?_)
      refine L_y (y_assign rfl) rfl ?_
      refine L_nil ?_
      refine hK12 _ _ ?_
      refine T_ret ?_
      repeat (first | with_reducible refine up_then ?_ | with_reducible refine up_in ?_)
      refine retct rfl rfl rfl (S11.blk 0 rfl) Tryz.underlying83 rfl (by rw [cmf_sz]; exact sz83) ?_
      have hgo := go_none hg.1
      have hv : gval s = zL := hgo.2
      rw [hv, hgo.1]
      refine ⟨_, rfl, S11.like0, none, 0, fr_nil _ _ _, ?_⟩
      show Value.tuple #[.agg (cmf zCm).toArray, .int .i64 (rcode s)] = _
      rw [hg.2]
      exact congrArg (fun x => Value.tuple #[.agg (cmf x).toArray, _]) zL_cm.symm
    ·
      refine T_skip ?_
      refine hK10 _ _ ?_
      refine T_seq fun K13 hK13 => ?_
      refine T_region ?_
      refine L_y (y_ldW Tryz.underlying83 rfl sz83 rfl (S7.blk 3 rfl) (cm_whole _)) rfl ?_
      refine L_o (o_stW S7 0 rfl rfl rfl (by rw [cmf_sz]; exact sz83) (by first | (rw [cmf_sz]; done) | (rw [cmf_sz]; rfl)) (fun u hu => cmf_one _ u (by rw [List.toList_toArray] at hu; exact hu)) fun w12 S12 => ?_)
      refine L_y (y_assign rfl) rfl ?_
      refine L_nil ?_
      refine hK13 _ _ ?_
      refine T_ret ?_
      repeat (first | with_reducible refine up_then ?_ | with_reducible refine up_in ?_)
      refine retct rfl rfl rfl (S12.blk 0 rfl) Tryz.underlying83 rfl (by rw [cmf_sz]; exact sz83) ?_
      exact absurd hg.2 (fun e => h21 (by rw [e]; decide))
end Go.Proofs.YtgaklngnfecdaaaGreat.Rev


/-
  The reference: a line.
-/
namespace Go.Proofs.YtgaklngnfecdaaaGreat.Rev
open Go.RowKit Zk Zx
open Oid (idf hexL idf_len readR)
open Tre (nmOk)
set_option linter.unusedVariables false
set_option linter.unusedSimpArgs false

def lineV (w s : List UInt8) : Value := match lineR w s with
  | none => .tuple #[.string ⟨#[]⟩, .string ⟨#[]⟩, .bool false]
  | some (a, b) => .tuple #[.string ⟨a.toArray⟩, .string ⟨b.toArray⟩, .bool true]
theorem lineV_no {w s : List UInt8} (h : lineR w s = none) : lineV w s = .tuple #[.string ⟨#[]⟩, .string ⟨#[]⟩, .bool false] := by unfold lineV; rw [h]
theorem lineV_yes {w s a b : List UInt8} (h : lineR w s = some (a, b)) : lineV w s = .tuple #[.string ⟨a.toArray⟩, .string ⟨b.toArray⟩, .bool true] := by unfold lineV; rw [h]
theorem take_no {c : UInt8} {s : List UInt8} {k : Nat} (hk : k < s.length) (h : c ∉ s.take k) (hn : g8 s k ≠ (c.toNat : Int)) : c ∉ s.take (k + 1) := by
  have e : g8 s k = ((s[k]).toNat : Int) := by simp [g8, List.getD_eq_getElem?_getD, List.getElem?_eq_getElem hk]
  rw [List.take_add_one, List.getElem?_eq_getElem hk]
  intro hm
  rcases List.mem_append.1 hm with hm | hm
  · exact h hm
  · have : c = s[k] := by simpa using hm
    exact hn (by rw [e, ← this])
theorem cut_at {c : UInt8} {s : List UInt8} {k : Nat} (hk : k < s.length) (h : c ∉ s.take k) (hn : g8 s k = (c.toNat : Int)) : cutF c s = some (s.take k, s.drop (k + 1)) := by
  have e : g8 s k = ((s[k]).toNat : Int) := by simp [g8, List.getD_eq_getElem?_getD, List.getElem?_eq_getElem hk]
  have e2 : s[k] = c := UInt8.toNat_inj.1 (by omega)
  have e3 : s = s.take k ++ c :: s.drop (k + 1) := by rw [← e2, List.getElem_cons_drop, List.take_append_drop]
  have := cutF_of (b := s.drop (k + 1)) h
  rw [← e3] at this
  exact this


set_option maxRecDepth 100000 in
theorem rline (s w : List UInt8) (w0 : World) (hl : s.length ≤ 100000) (hwl : w.length ≤ 10) :
    Calls Tryz.prog 78 #[.string ⟨s.toArray⟩, .string ⟨w.toArray⟩] w0 fun e w' => ∃ u, e = .returned u ∧ Like w0 w' ∧ u = lineV w s := by
  refine enter1 (env := [(0, .string ⟨s.toArray⟩), (1, .string ⟨w.toArray⟩)]) [.string ⟨s.toArray⟩, .string ⟨w.toArray⟩] Tryz.func78 rfl Tryz.ntmps78 rfl rfl ?_
  have hbs := bsz s
  have hbw := bsz w
  have S0 := St.start w0 noM
  refine T_seq fun K1 hK1 => ?_
  refine T_region ?_
  refine L_y (y_assign rfl) rfl ?_
  refine L_y (y_assign rfl) rfl ?_
  refine L_y (y_assign rfl) rfl ?_
  refine L_nil ?_
  refine hK1 _ _ ?_
  refine T_seq fun K2 hK2 => ?_
  refine T_region ?_
  refine L_y (y_assign rfl) rfl ?_
  refine L_nil ?_
  refine hK2 _ _ ?_
  refine T_seq fun K3 hK3 => ?_
  refine T_block ?_
  refine T_loop1 [(0, _), (1, _)] (fun (k : Nat) => [(7, .int .i64 (k : Int))]) (fun (k : Nat) => s.length - k) (fun (k : Nat) (w : World) => (k ≤ s.length ∧ (10 : UInt8) ∉ s.take k) ∧ St w0 noM [] w) 0 (Sub.cons rfl (by first | rfl | exact congrArg (Value.int _) (by omega)) (Sub.nil _)) (Sub.cons rfl rfl (Sub.cons rfl rfl (Sub.nil _))) ?_ ?_
  ·
    exact ⟨⟨by omega, by simp⟩, S0⟩
  ·
    intro k w1 hrel
    obtain ⟨⟨hk, hall⟩, S1⟩ := hrel
    refine T_seq fun K4 hK4 => ?_
    refine T_seq fun K5 hK5 => ?_
    refine T_region ?_
    refine L_y (y_move rfl) rfl ?_
    refine L_y (y_move rfl) rfl ?_
    refine L_y (y_lens Tryz.underlying9 rfl) rfl ?_
    refine L_y (y_lss rfl rfl) rfl ?_
    refine L_y (y_move rfl) rfl ?_
    refine L_split 12 rfl (fun h12 => ?_) (fun h12 => ?_)
    ·
      refine L_gyes rfl rfl ?_
      refine L_y (y_move rfl) rfl ?_
      refine L_gyes rfl rfl ?_
      refine L_y (y_move rfl) rfl ?_
      refine L_gyes rfl rfl ?_
      refine L_y (y_idxS Tryz.underlying9 rfl rfl inferInstance (by omega)) rfl ?_
      refine L_gyes rfl rfl ?_
      refine L_y (y_neq rfl rfl) rfl ?_
      refine L_y ((by first | exact y_pickT rfl rfl | exact y_pickF rfl rfl)) rfl ?_
      refine L_nil ?_
      refine hK5 _ _ ?_
      refine T_cond rfl (fun h17 => ?_) (fun h17 => ?_)
      ·
        refine T_skip ?_
        refine hK4 _ _ ?_
        refine T_block ?_
        refine T_region ?_
        refine L_y (y_move rfl) rfl ?_
        refine L_y (y_add rfl rfl (i64w (by omega))) rfl ?_
        refine L_y (y_assign rfl) rfl ?_
        refine L_nil ?_
        refine ⟨k + 1, by omega, ⟨⟨by omega, take_no (by omega) hall (fun e => absurd e (by first | assumption | exact fun e => by simp_all))⟩, S1⟩, ?_⟩
        exact (Sub.cons rfl (by first | rfl | exact congrArg (Value.int _) (by omega)) (Sub.cons rfl rfl (Sub.cons rfl rfl (Sub.nil _))))
      ·
        refine T_exit ?_
        refine hK3 _ _ ?_
        refine T_seq fun K6 hK6 => ?_
        refine T_seq fun K7 hK7 => ?_
        refine T_region ?_
        refine L_y (y_move rfl) rfl ?_
        refine L_y (y_move rfl) rfl ?_
        refine L_y (y_lens Tryz.underlying9 rfl) rfl ?_
        refine L_y (y_eql rfl rfl) rfl ?_
        refine L_y (y_move rfl) rfl ?_
        refine L_split 24 rfl (fun h24 => ?_) (fun h24 => ?_)
        ·
          refine L_gno rfl rfl rfl ?_
          refine L_gno rfl rfl rfl ?_
          refine L_gno rfl rfl rfl ?_
          refine L_gno rfl rfl rfl ?_
          refine L_gno rfl rfl rfl ?_
          refine L_y ((by first | exact y_pickT rfl rfl | exact y_pickF rfl rfl)) rfl ?_
          refine L_y (y_move rfl) rfl ?_
          refine L_gno rfl rfl rfl ?_
          refine L_gno rfl rfl rfl ?_
          refine L_gno rfl rfl rfl ?_
          refine L_gno rfl rfl rfl ?_
          refine L_gno rfl rfl rfl ?_
          refine L_gno rfl rfl rfl ?_
          refine L_gno rfl rfl rfl ?_
          refine L_gno rfl rfl rfl ?_
          refine L_y ((by first | exact y_pickT rfl rfl | exact y_pickF rfl rfl)) rfl ?_
          refine L_nil ?_
          refine hK7 _ _ ?_
          refine T_true rfl ?_
          refine T_seq fun K8 hK8 => ?_
          refine T_region ?_
          refine L_y (y_assign rfl) rfl ?_
          refine L_y (y_assign rfl) rfl ?_
          refine L_y (y_assign rfl) rfl ?_
          refine L_nil ?_
          refine hK8 _ _ ?_
          refine T_ret ?_
          repeat (first | with_reducible refine up_then ?_ | with_reducible refine up_in ?_)
          refine ret3 rfl rfl rfl rfl ?_
          have hc := cut_at (c := 10) (s := s) (k := k) (by omega) hall (Classical.byContradiction fun e => h17 e)
          first | exact absurd h24 (by omega) | exact ⟨_, rfl, S1.like0, (lineV_no (lineR_no hc (fun h => by have h9 := h.2; rw [List.length_take] at h9; omega))).symm⟩
        ·
          refine L_gyes rfl rfl ?_
          refine L_y (y_move rfl) rfl ?_
          refine L_gyes rfl rfl ?_
          refine L_y (y_move rfl) rfl ?_
          refine L_gyes rfl rfl ?_
          refine L_y (y_lens Tryz.underlying9 rfl) rfl ?_
          refine L_gyes rfl rfl ?_
          refine L_y (y_add rfl rfl (i64w (by omega))) rfl ?_
          refine L_gyes rfl rfl ?_
          refine L_y (y_lss rfl rfl) rfl ?_
          refine L_y ((by first | exact y_pickT rfl rfl | exact y_pickF rfl rfl)) rfl ?_
          refine L_y (y_move rfl) rfl ?_
          refine L_split 31 rfl (fun h31 => ?_) (fun h31 => ?_)
          ·
            refine L_gno rfl rfl rfl ?_
            refine L_gno rfl rfl rfl ?_
            refine L_gno rfl rfl rfl ?_
            refine L_gno rfl rfl rfl ?_
            refine L_gno rfl rfl rfl ?_
            refine L_gno rfl rfl rfl ?_
            refine L_gno rfl rfl rfl ?_
            refine L_gno rfl rfl rfl ?_
            refine L_y ((by first | exact y_pickT rfl rfl | exact y_pickF rfl rfl)) rfl ?_
            refine L_nil ?_
            refine hK7 _ _ ?_
            refine T_true rfl ?_
            refine T_seq fun K9 hK9 => ?_
            refine T_region ?_
            refine L_y (y_assign rfl) rfl ?_
            refine L_y (y_assign rfl) rfl ?_
            refine L_y (y_assign rfl) rfl ?_
            refine L_nil ?_
            refine hK9 _ _ ?_
            refine T_ret ?_
            repeat (first | with_reducible refine up_then ?_ | with_reducible refine up_in ?_)
            refine ret3 rfl rfl rfl rfl ?_
            have hc := cut_at (c := 10) (s := s) (k := k) (by omega) hall (Classical.byContradiction fun e => h17 e)
            first | exact absurd h24 (by omega) | exact ⟨_, rfl, S1.like0, (lineV_no (lineR_no hc (fun h => by have h9 := h.2; rw [List.length_take] at h9; omega))).symm⟩
          ·
            refine L_gyes rfl rfl ?_
            refine L_y (y_move rfl) rfl ?_
            refine L_gyes rfl rfl ?_
            refine L_y (y_move rfl) rfl ?_
            refine L_gyes rfl rfl ?_
            refine L_y (y_lens Tryz.underlying9 rfl) rfl ?_
            refine L_gyes rfl rfl ?_
            refine L_y (y_add rfl rfl (i64w (by omega))) rfl ?_
            refine L_gyes rfl rfl ?_
            refine L_y (y_ssliceH (u := w.length + 1) Tryz.underlying9 rfl rfl (Nt.mk (by omega)) (by omega)) rfl ?_
            refine L_gyes rfl rfl ?_
            refine L_y (y_move rfl) rfl ?_
            refine L_gyes rfl rfl ?_
            refine L_y (y_cat rfl rfl (by rw [bsz, bsz32]; omega)) rfl ?_
            rw [cat32]
            refine L_gyes rfl rfl ?_
            refine L_y (y_sneq rfl rfl) rfl ?_
            refine L_y ((by first | exact y_pickT rfl rfl | exact y_pickF rfl rfl)) rfl ?_
            refine L_nil ?_
            refine hK7 _ _ ?_
            refine T_cond rfl (fun h40 => ?_) (fun h40 => ?_)
            ·
              refine T_seq fun K10 hK10 => ?_
              refine T_region ?_
              refine L_y (y_assign rfl) rfl ?_
              refine L_y (y_assign rfl) rfl ?_
              refine L_y (y_assign rfl) rfl ?_
              refine L_nil ?_
              refine hK10 _ _ ?_
              refine T_ret ?_
              repeat (first | with_reducible refine up_then ?_ | with_reducible refine up_in ?_)
              refine ret3 rfl rfl rfl rfl ?_
              have hc := cut_at (c := 10) (s := s) (k := k) (by omega) hall (Classical.byContradiction fun e => h17 e)
              exact ⟨_, rfl, S1.like0, (lineV_no (lineR_no hc (fun h => h40 (by have h9 := (pre_iff s (w ++ [32])).2 h.1; rw [List.length_append] at h9; exact h9)))).symm⟩
            ·
              refine T_skip ?_
              refine hK6 _ _ ?_
              refine T_seq fun K11 hK11 => ?_
              refine T_drawnL [(0, true), (1, true), (2, true), (3, true), (4, true), (5, true), (6, true), (7, true), (8, true), (9, true), (10, true), (11, true), (12, true)] hmix (by kernel_rfl) fun w5 l5 => ?_
              have S5 := S1.like l5
              refine DL_y rfl (y_move rfl) rfl ?_
              refine DL_y rfl (y_move rfl) rfl ?_
              refine DL_y rfl (y_lens Tryz.underlying9 rfl) rfl ?_
              refine DL_y rfl (y_add rfl rfl (i64w (by omega))) rfl ?_
              refine DL_y rfl (y_move rfl) rfl ?_
              refine DL_y rfl (y_sslice (l := w.length + 1) (u := k) Tryz.underlying9 rfl rfl rfl (Nt.mk (by omega)) (Nt.mk (by omega)) (by omega) (by omega)) rfl ?_
              refine DL_y rfl (y_move rfl) rfl ?_
              refine DL_y rfl (y_move rfl) rfl ?_
              refine DL_y rfl (y_add rfl rfl (i64w (by omega))) rfl ?_
              refine DL_y rfl (y_ssliceL (l := k + 1) Tryz.underlying9 rfl rfl (Nt.mk (by omega)) (by omega)) rfl ?_
              refine DL_y rfl (y_assign rfl) rfl ?_
              refine DL_y rfl (y_assign rfl) rfl ?_
              refine DL_y rfl (y_assign rfl) rfl ?_
              refine DL_nil ?_
              refine hK11 _ _ ?_
              refine T_ret ?_
              repeat (first | with_reducible refine up_then ?_ | with_reducible refine up_in ?_)
              refine ret3 rfl rfl rfl rfl ?_
              have hc := cut_at (c := 10) (s := s) (k := k) (by omega) hall (Classical.byContradiction fun e => h17 e)
              have hp : preP s (w ++ [32]) := (pre_iff s (w ++ [32])).1 (by rw [List.length_append]; exact Classical.byContradiction fun e => h40 e)
              refine ⟨_, rfl, S5.like0, ?_⟩
              rw [lineV_yes (lineR_yes hc ⟨hp, by rw [List.length_take]; omega⟩), ext_list, ext_drop, List.drop_take]
    ·
      refine L_gno rfl rfl rfl ?_
      refine L_gno rfl rfl rfl ?_
      refine L_gno rfl rfl rfl ?_
      refine L_gno rfl rfl rfl ?_
      refine L_y ((by first | exact y_pickT rfl rfl | exact y_pickF rfl rfl)) rfl ?_
      refine L_nil ?_
      refine hK5 _ _ ?_
      refine T_false rfl ?_
      refine T_exit ?_
      refine hK3 _ _ ?_
      refine T_seq fun K12 hK12 => ?_
      refine T_seq fun K13 hK13 => ?_
      refine T_region ?_
      refine L_y (y_move rfl) rfl ?_
      refine L_y (y_move rfl) rfl ?_
      refine L_y (y_lens Tryz.underlying9 rfl) rfl ?_
      refine L_y (y_eql rfl rfl) rfl ?_
      refine L_y (y_move rfl) rfl ?_
      refine L_split 24 rfl (fun h24 => ?_) (fun h24 => ?_)
      ·
        refine L_gno rfl rfl rfl ?_
        refine L_gno rfl rfl rfl ?_
        refine L_gno rfl rfl rfl ?_
        refine L_gno rfl rfl rfl ?_
        refine L_gno rfl rfl rfl ?_
        refine L_y ((by first | exact y_pickT rfl rfl | exact y_pickF rfl rfl)) rfl ?_
        refine L_y (y_move rfl) rfl ?_
        refine L_gno rfl rfl rfl ?_
        refine L_gno rfl rfl rfl ?_
        refine L_gno rfl rfl rfl ?_
        refine L_gno rfl rfl rfl ?_
        refine L_gno rfl rfl rfl ?_
        refine L_gno rfl rfl rfl ?_
        refine L_gno rfl rfl rfl ?_
        refine L_gno rfl rfl rfl ?_
        refine L_y ((by first | exact y_pickT rfl rfl | exact y_pickF rfl rfl)) rfl ?_
        refine L_nil ?_
        refine hK13 _ _ ?_
        refine T_true rfl ?_
        refine T_seq fun K14 hK14 => ?_
        refine T_region ?_
        refine L_y (y_assign rfl) rfl ?_
        refine L_y (y_assign rfl) rfl ?_
        refine L_y (y_assign rfl) rfl ?_
        refine L_nil ?_
        refine hK14 _ _ ?_
        refine T_ret ?_
        repeat (first | with_reducible refine up_then ?_ | with_reducible refine up_in ?_)
        refine ret3 rfl rfl rfl rfl ?_
        have hke : k = s.length := by omega
        rw [hke, List.take_length] at hall
        first | exact ⟨_, rfl, S1.like0, (lineV_no (lineR_cut (cutF_no hall))).symm⟩
      ·
        refine L_gyes rfl rfl ?_
        refine L_y (y_move rfl) rfl ?_
        refine L_gyes rfl rfl ?_
        refine L_y (y_move rfl) rfl ?_
        refine L_gyes rfl rfl ?_
        refine L_y (y_lens Tryz.underlying9 rfl) rfl ?_
        refine L_gyes rfl rfl ?_
        refine L_y (y_add rfl rfl (i64w (by omega))) rfl ?_
        refine L_gyes rfl rfl ?_
        refine L_y (y_lss rfl rfl) rfl ?_
        refine L_y ((by first | exact y_pickT rfl rfl | exact y_pickF rfl rfl)) rfl ?_
        refine L_y (y_move rfl) rfl ?_
        refine L_split 31 rfl (fun h31 => ?_) (fun h31 => ?_)
        ·
          refine L_gno rfl rfl rfl ?_
          refine L_gno rfl rfl rfl ?_
          refine L_gno rfl rfl rfl ?_
          refine L_gno rfl rfl rfl ?_
          refine L_gno rfl rfl rfl ?_
          refine L_gno rfl rfl rfl ?_
          refine L_gno rfl rfl rfl ?_
          refine L_gno rfl rfl rfl ?_
          refine L_y ((by first | exact y_pickT rfl rfl | exact y_pickF rfl rfl)) rfl ?_
          refine L_nil ?_
          refine hK13 _ _ ?_
          refine T_true rfl ?_
          refine T_seq fun K15 hK15 => ?_
          refine T_region ?_
          refine L_y (y_assign rfl) rfl ?_
          refine L_y (y_assign rfl) rfl ?_
          refine L_y (y_assign rfl) rfl ?_
          refine L_nil ?_
          refine hK15 _ _ ?_
          refine T_ret ?_
          repeat (first | with_reducible refine up_then ?_ | with_reducible refine up_in ?_)
          refine ret3 rfl rfl rfl rfl ?_
          have hke : k = s.length := by omega
          rw [hke, List.take_length] at hall
          first | exact ⟨_, rfl, S1.like0, (lineV_no (lineR_cut (cutF_no hall))).symm⟩
        ·
          refine L_gyes rfl rfl ?_
          refine L_y (y_move rfl) rfl ?_
          refine L_gyes rfl rfl ?_
          refine L_y (y_move rfl) rfl ?_
          refine L_gyes rfl rfl ?_
          refine L_y (y_lens Tryz.underlying9 rfl) rfl ?_
          refine L_gyes rfl rfl ?_
          refine L_y (y_add rfl rfl (i64w (by omega))) rfl ?_
          refine L_gyes rfl rfl ?_
          refine L_y (y_ssliceH (u := w.length + 1) Tryz.underlying9 rfl rfl (Nt.mk (by omega)) (by omega)) rfl ?_
          refine L_gyes rfl rfl ?_
          refine L_y (y_move rfl) rfl ?_
          refine L_gyes rfl rfl ?_
          refine L_y (y_cat rfl rfl (by rw [bsz, bsz32]; omega)) rfl ?_
          rw [cat32]
          refine L_gyes rfl rfl ?_
          refine L_y (y_sneq rfl rfl) rfl ?_
          refine L_y ((by first | exact y_pickT rfl rfl | exact y_pickF rfl rfl)) rfl ?_
          refine L_nil ?_
          refine hK13 _ _ ?_
          refine T_cond rfl (fun h40 => ?_) (fun h40 => ?_)
          ·
            refine T_seq fun K16 hK16 => ?_
            refine T_region ?_
            refine L_y (y_assign rfl) rfl ?_
            refine L_y (y_assign rfl) rfl ?_
            refine L_y (y_assign rfl) rfl ?_
            refine L_nil ?_
            refine hK16 _ _ ?_
            refine T_ret ?_
            repeat (first | with_reducible refine up_then ?_ | with_reducible refine up_in ?_)
            refine ret3 rfl rfl rfl rfl ?_
            exact absurd (show (k : Int) = _ by omega) h24
          ·
            refine T_skip ?_
            refine hK12 _ _ ?_
            refine T_seq fun K17 hK17 => ?_
            refine T_drawnL [(0, true), (1, true), (2, true), (3, true), (4, true), (5, true), (6, true), (7, true), (8, true), (9, true), (10, true), (11, true), (12, true)] hmix (by kernel_rfl) fun w8 l8 => ?_
            have S8 := S1.like l8
            refine DL_y rfl (y_move rfl) rfl ?_
            refine DL_y rfl (y_move rfl) rfl ?_
            refine DL_y rfl (y_lens Tryz.underlying9 rfl) rfl ?_
            refine DL_y rfl (y_add rfl rfl (i64w (by omega))) rfl ?_
            refine DL_y rfl (y_move rfl) rfl ?_
            refine DL_y rfl (y_sslice (l := w.length + 1) (u := k) Tryz.underlying9 rfl rfl rfl (Nt.mk (by omega)) (Nt.mk (by omega)) (by omega) (by omega)) rfl ?_
            refine DL_y rfl (y_move rfl) rfl ?_
            refine DL_y rfl (y_move rfl) rfl ?_
            refine DL_y rfl (y_add rfl rfl (i64w (by omega))) rfl ?_
            refine DL_y rfl (y_ssliceL (l := k + 1) Tryz.underlying9 rfl rfl (Nt.mk (by omega)) (by omega)) rfl ?_
            refine DL_y rfl (y_assign rfl) rfl ?_
            refine DL_y rfl (y_assign rfl) rfl ?_
            refine DL_y rfl (y_assign rfl) rfl ?_
            refine DL_nil ?_
            refine hK17 _ _ ?_
            refine T_ret ?_
            repeat (first | with_reducible refine up_then ?_ | with_reducible refine up_in ?_)
            refine ret3 rfl rfl rfl rfl ?_
            exact absurd (show (k : Int) = _ by omega) h24
end Go.Proofs.YtgaklngnfecdaaaGreat.Rev


/-
  The reference: Get.
-/
namespace Go.Proofs.YtgaklngnfecdaaaGreat.Rev
open Go.RowKit Zk Zx
open Oid (idf hexL idf_len readR)
open Tre (nmOk)
set_option linter.unusedVariables false
set_option linter.unusedSimpArgs false

theorem lineV_b (w s : List UInt8) : ∃ a b f, lineV w s = .tuple #[.string ⟨a.toArray⟩, .string ⟨b.toArray⟩, .bool f] ∧ (f = true → lineR w s = some (a, b)) ∧ (f = false → lineR w s = none) ∧ b.length ≤ s.length ∧ (f = true → b.length < s.length) := by
  cases h : lineR w s with
  | none => exact ⟨[], [], false, lineV_no h, (fun e => by cases e), fun _ => rfl, Nat.zero_le _, (fun e => by cases e)⟩
  | some p =>
    have := lineR_len (a := p.1) (b := p.2) h
    exact ⟨p.1, p.2, true, lineV_yes h, fun _ => rfl, (fun e => by cases e), by omega, fun _ => by omega⟩
theorem rreadN (a : List UInt8) (w : World) : Calls Tryz.prog 79 #[.string ⟨a.toArray⟩] w fun e w' => ∃ u, e = .returned u ∧ Like w w' ∧ ∃ t : Oid.Id, t = ⟨(readR a).1, Oid.length_readR a⟩ ∧ u = .tuple #[.agg (idf t).toArray, .int .i64 (readR a).2] := (Oid.rread_any ⟨a.toArray⟩ w).mono fun e w' ⟨h1, h2⟩ => ⟨_, h1, h2, _, rfl, rfl⟩
theorem id_bad {w s a b : List UInt8} {f : Bool} (h1 : f = true → lineR w s = some (a, b)) (h0 : f = false → lineR w s = none) (h : f = false ∨ (readR a).2 ≠ 0) : idR w s = none := by
  cases f with
  | false => unfold idR; rw [h0 rfl]
  | true => unfold idR; rw [h1 rfl]; exact if_neg (h.resolve_left (fun e => by cases e))
theorem id_good {w s a b : List UInt8} {f : Bool} {t : Oid.Id} (ht : t = ⟨(readR a).1, Oid.length_readR a⟩) (h1 : f = true → lineR w s = some (a, b)) (hf : f = true) (h : (readR a).2 = 0) : idR w s = some (t, b) := by
  subst ht
  unfold idR; rw [h1 hf]; exact if_pos h
theorem numb_bad {w s a b : List UInt8} {f : Bool} (h1 : f = true → lineR w s = some (a, b)) (h0 : f = false → lineR w s = none) (h : f = false ∨ numOk a = false) : numbR w s = none := by
  cases f with
  | false => unfold numbR; rw [h0 rfl]
  | true => unfold numbR; rw [h1 rfl]; simp [h.resolve_left (fun e => by cases e)]
theorem numb_good {w s a b : List UInt8} {f : Bool} (h1 : f = true → lineR w s = some (a, b)) (hf : f = true) (h : numOk a = true) : numbR w s = some (numV a, b) := by
  unfold numbR; rw [h1 hf]; simp [h]
theorem pre1 (s : List UInt8) : preP s [10] ↔ (0 < s.length ∧ g8 s 0 = 10) := by
  unfold preP g8
  cases s with
  | nil => simp
  | cons x r =>
    show ([x] : List UInt8) = [10] ↔ (0 < r.length + 1 ∧ ((x.toNat : Int) = 10))
    constructor
    · intro h
      have hx : x = 10 := by simpa using h
      exact ⟨by omega, by rw [hx]; rfl⟩
    · intro h
      have hx : x = 10 := UInt8.toNat_inj.1 (by have h2 := h.2; have : (10 : UInt8).toNat = 10 := rfl; omega)
      rw [hx]
theorem get_out {w0 w : World} {s : List UInt8} (l : Like w0 w) (h : getR s = none) : ∃ u, Ending.returned (.tuple #[.agg (cmf zCm).toArray, .int .i64 12]) = .returned u ∧ Like w0 w ∧ ∃ A c, Fr w0 w 32 A (gval s).ps.length c ((gval s).ps.flatMap idf) ∧ u = .tuple #[.agg (cmf (cmOf (gval s) A (gval s).ps.length c)).toArray, .int .i64 (gcode s)] := by
  have hgo := go_none h
  rw [hgo.1, hgo.2]
  exact ⟨_, rfl, l, none, 0, fr_nil _ _ _, congrArg (fun x => Value.tuple #[.agg (cmf x).toArray, _]) zL_cm.symm⟩


theorem textR_n {s : List UInt8} (h : g8 s 0 ≠ 10) : textR s = none := by unfold textR; exact if_neg fun hp => h ((pre1 s).1 hp).2
theorem textR_e {s : List UInt8} (h : (⟨s.toArray⟩ : ByteArray) = ⟨#[]⟩) : textR s = none := by
  have hz : s = [] := by simpa using congrArg (fun b : ByteArray => b.data.toList) h
  rw [hz]
  rfl
theorem par7 {s : List UInt8} (h : preP s (wParent ++ [32])) : 7 ≤ s.length := by
  have h8 := congrArg List.length (show s.take 7 = wParent ++ [32] from h)
  rw [List.length_take] at h8
  have h7 : (wParent ++ [32]).length = 7 := rfl
  omega
theorem par_iff (s : List UInt8) : ((⟨s.toArray⟩ : ByteArray).extract 0 7 = ⟨#[112, 97, 114, 101, 110, 116, 32]⟩) ↔ preP s (wParent ++ [32]) := by
  have h := pre_iff s (wParent ++ [32])
  have e1 : (wParent ++ [32]).length = 7 := rfl
  have e2 : (wParent ++ [32]).toArray = #[112, 97, 114, 101, 110, 116, 32] := rfl
  rw [e1, e2] at h
  exact h


set_option maxRecDepth 100000 in
theorem rget (B : Option Addr) (m0 d : Nat) (s : List UInt8) (w0 : World) (hb : Rs w0 1 B m0 d (bL s)) (hl : s.length ≤ 2000) :
    Calls Tryz.prog 42 #[.slice B m0 d] w0 fun e w' => ∃ u, e = .returned u ∧ Like w0 w' ∧ ∃ A c, Fr w0 w' 32 A (gval s).ps.length c ((gval s).ps.flatMap idf) ∧ u = .tuple #[.agg (cmf (cmOf (gval s) A (gval s).ps.length c)).toArray, .int .i64 (gcode s)] := by
  refine enter1 (env := [(0, .slice B m0 d)]) [.slice B m0 d] Tryz.func42 rfl Tryz.ntmps42 rfl rfl ?_
  have S0 := St.start w0 noM
  refine T_seq fun K1 hK1 => ?_
  refine T_region ?_
  refine L_o (o_alloc zz83 S0 rfl fun b1 w1 hb1 S1 => ?_)
  refine L_y (y_assign rfl) rfl ?_
  refine L_nil ?_
  refine hK1 _ _ ?_
  refine T_seq fun K2 hK2 => ?_
  refine T_region ?_
  refine L_o (o_alloc zz83 S1 rfl fun b2 w2 hb2 S2 => ?_)
  have S3 : Zx.St w0 noM [blk b1 83 (cmf zCm).toArray, blk b2 83 (cmf zCm).toArray] w2 := S2.cast (by kernel_rfl)
  refine L_nil ?_
  refine hK2 _ _ ?_
  refine T_seq fun K3 hK3 => ?_
  refine T_region ?_
  refine L_y (y_move rfl) rfl ?_
  refine L_y (y_bstr Tryz.underlying22 Tryz.underlying5 Tryz.underlying9 rfl (by first | exact S3.rd hb)) rfl ?_
  refine L_o (o_call Tryz.func78 rfl rfl (rline s wTree w2 (by omega) (by decide)) rfl rfl ?_)
  rintro e4 w4 ⟨v4, rfl, l4, hu4⟩
  refine ⟨_, rfl, ?_⟩
  have S4 := S3.like l4
  obtain ⟨ta, s1, f1, hvf1, h1f1, h0f1, hlf1, hmf1⟩ := lineV_b wTree s
  rw [hvf1] at hu4
  subst hu4
  refine L_y (y_move rfl) rfl ?_
  refine L_y (y_extract rfl rfl) rfl ?_
  refine L_y (y_extract rfl rfl) rfl ?_
  refine L_y (y_extract rfl rfl) rfl ?_
  refine L_y (y_assign rfl) rfl ?_
  refine L_y (y_assign rfl) rfl ?_
  refine L_y (y_assign rfl) rfl ?_
  refine L_nil ?_
  refine hK3 _ _ ?_
  refine T_seq fun K4 hK4 => ?_
  refine T_region ?_
  refine L_y (y_move rfl) rfl ?_
  refine L_o (o_call Tryz.func79 rfl rfl (rreadN ta w4) rfl rfl ?_)
  rintro e5 w5 ⟨v5, rfl, l5, t, ht, rfl⟩
  refine ⟨_, rfl, ?_⟩
  have S5 := S4.like l5
  refine L_y (y_move rfl) rfl ?_
  refine L_y (y_extract rfl rfl) rfl ?_
  refine L_y (y_extract rfl rfl) rfl ?_
  refine L_o (o_alloc zz41 S5 rfl fun b6 w6 hb6 S6 => ?_)
  refine L_o (o_stW S6 2 rfl rfl rfl (by rw [List.size_toArray, idf_len]; exact sz41) (by rw [List.size_toArray, idf_len]; simp [Value.cells, idf_len]) (fun u hu => bL_one _ u (by rw [List.toList_toArray] at hu; exact hu)) fun w7 S7 => ?_)
  refine L_y (y_assign rfl) rfl ?_
  refine L_nil ?_
  refine hK4 _ _ ?_
  refine T_seq fun K5 hK5 => ?_
  refine T_seq fun K6 hK6 => ?_
  refine T_region ?_
  refine L_y (y_move rfl) rfl ?_
  refine L_y ((by first | exact y_notD rfl | exact y_not rfl)) rfl ?_
  refine L_y (y_move rfl) rfl ?_
  refine L_splitB 26 rfl (fun h26 => ?_) (fun h26 => ?_)
  ·
    refine L_gno rfl rfl rfl ?_
    refine L_gno rfl rfl rfl ?_
    refine L_y ((by first | exact y_pickT rfl rfl | exact y_pickF rfl rfl)) rfl ?_
    refine L_nil ?_
    refine hK6 _ _ ?_
    refine T_true rfl ?_
    refine T_seq fun K7 hK7 => ?_
    refine T_region ?_
    refine L_y (y_build rfl (show _ = some (cmf zCm).toArray by kernel_rfl)) rfl ?_
    refine L_o (o_stW S7 0 rfl rfl rfl (by rw [cmf_sz]; exact sz83) (by first | (rw [cmf_sz]; done) | (rw [cmf_sz]; rfl)) (fun u hu => cmf_one _ u (by rw [List.toList_toArray] at hu; exact hu)) fun w9 S9 => ?_)
    refine L_y (y_assign rfl) rfl ?_
    refine L_nil ?_
    refine hK7 _ _ ?_
    refine T_ret ?_
    repeat (first | with_reducible refine up_then ?_ | with_reducible refine up_in ?_)
    refine retct rfl rfl rfl (S9.blk 0 rfl) Tryz.underlying83 rfl (by rw [cmf_sz]; exact sz83) ?_
    exact get_out S9.like0 (g1 (id_bad h1f1 h0f1 (by first | exact .inl (by simpa using h26) | exact .inr h29)))
  ·
    refine L_gyes rfl rfl ?_
    refine L_y (y_move rfl) rfl ?_
    refine L_gyes rfl rfl ?_
    refine L_y (y_neq rfl rfl) rfl ?_
    refine L_y ((by first | exact y_pickT rfl rfl | exact y_pickF rfl rfl)) rfl ?_
    refine L_nil ?_
    refine hK6 _ _ ?_
    refine T_cond rfl (fun h29 => ?_) (fun h29 => ?_)
    ·
      refine T_seq fun K8 hK8 => ?_
      refine T_region ?_
      refine L_y (y_build rfl (show _ = some (cmf zCm).toArray by kernel_rfl)) rfl ?_
      refine L_o (o_stW S7 0 rfl rfl rfl (by rw [cmf_sz]; exact sz83) (by first | (rw [cmf_sz]; done) | (rw [cmf_sz]; rfl)) (fun u hu => cmf_one _ u (by rw [List.toList_toArray] at hu; exact hu)) fun w10 S10 => ?_)
      refine L_y (y_assign rfl) rfl ?_
      refine L_nil ?_
      refine hK8 _ _ ?_
      refine T_ret ?_
      repeat (first | with_reducible refine up_then ?_ | with_reducible refine up_in ?_)
      refine retct rfl rfl rfl (S10.blk 0 rfl) Tryz.underlying83 rfl (by rw [cmf_sz]; exact sz83) ?_
      exact get_out S10.like0 (g1 (id_bad h1f1 h0f1 (by first | exact .inl (by simpa using h26) | exact .inr h29)))
    ·
      have hid := id_good ht h1f1 (by simpa using h26) (Classical.byContradiction fun e => h29 e)
      have hl1 := hmf1 (by simpa using h26)
      refine T_skip ?_
      refine hK5 _ _ ?_
      refine T_seq fun K9 hK9 => ?_
      refine T_region ?_
      refine L_y (y_ldW Tryz.underlying41 rfl sz41 rfl (S7.blk 2 rfl) (⟨by rw [List.drop_zero]; exact List.take_of_length_le (by simp [idf_len]), by rw [idf_len]⟩ : _ = idf _ ∧ _)) rfl ?_
      refine L_y (y_fieldA 0 Tryz.underlying83 rfl sz41 rfl rfl rfl) rfl ?_
      refine L_o (o_stR S7 1 rfl rfl rfl (by rw [List.size_toArray, idf_len]; exact sz41) (by rw [List.size_toArray, idf_len, cmf_sz]; omega) (fun u hu => bL_one _ u (by rw [List.toList_toArray] at hu; exact hu)) fun w11 S11 => ?_)
      have S12 := S11.blkc 1 rfl (st_tree _ _)
      refine L_nil ?_
      refine hK9 _ _ ?_
      refine T_seq fun K10 hK10 => ?_
      refine T_block ?_
      refine T_loop7 [(2, _), (4, _), (8, _)] (fun (m : Nat) (s2 : List UInt8) (ps : List Oid.Id) (A : Option Addr) (n : Nat) (c : Nat) (q : List UInt8 × Bool × Int × Oid.Id) => [(5, .string ⟨q.1.toArray⟩), (6, .string ⟨s2.toArray⟩), (7, .bool q.2.1), (9, .int .i64 q.2.2.1)]) (fun (m : Nat) (s2 : List UInt8) (ps : List Oid.Id) (A : Option Addr) (n : Nat) (c : Nat) (q : List UInt8 × Bool × Int × Oid.Id) => m) (fun (m : Nat) (s2 : List UInt8) (ps : List Oid.Id) (A : Option Addr) (n : Nat) (c : Nat) (q : List UInt8 × Bool × Int × Oid.Id) (w : World) => (n = ps.length ∧ s2.length < m ∧ ps.length + s2.length ≤ 100000 ∧ parsR (s.length + 1) s1 = (parsR m s2).map fun q => (ps ++ q.1, q.2)) ∧ Zx.St w0 noM [blk b1 83 (cmf zCm).toArray, blk b2 83 (cmf (⟨t, A, n, c, [], ⟨#[]⟩, 0, ⟨#[]⟩⟩ : Cm)).toArray, blk b6 41 (idf q.2.2.2).toArray, row 41 32 A n c (ps.flatMap idf)] w) (s.length + 1) s1 [] none 0 0 (ta, f1, (readR ta).2, t) (Sub.cons rfl (by first | rfl | exact congrArg (Value.int _) (by omega)) (Sub.cons rfl (by first | rfl | exact congrArg (Value.int _) (by omega)) (Sub.cons rfl (by first | rfl | exact congrArg (Value.int _) (by omega)) (Sub.cons rfl (by first | rfl | exact congrArg (Value.int _) (by omega)) (Sub.nil _))))) (Sub.cons rfl rfl (Sub.cons rfl rfl (Sub.cons rfl rfl (Sub.nil _)))) ?_ ?_
      ·
        have S80 := S12.nilrow 41 32
        exact ⟨⟨rfl, by omega, by simp; omega, by cases parsR (s.length + 1) s1 <;> rfl⟩, S80⟩
      ·
        intro m s2 ps A n c q w13 hrel
        obtain ⟨⟨hn, hm, hb2, hps⟩, S13⟩ := hrel
        refine T_seq fun K11 hK11 => ?_
        refine T_seq fun K12 hK12 => ?_
        refine T_region ?_
        refine L_y (y_move rfl) rfl ?_
        refine L_y (y_lens Tryz.underlying9 rfl) rfl ?_
        refine L_y (y_geq rfl rfl) rfl ?_
        refine L_y (y_move rfl) rfl ?_
        refine L_split 36 rfl (fun h36 => ?_) (fun h36 => ?_)
        ·
          refine L_gyes rfl rfl ?_
          refine L_y (y_move rfl) rfl ?_
          refine L_gyes rfl rfl ?_
          refine L_y (y_ssliceH (u := 7) Tryz.underlying9 rfl rfl (Nt.mk (by omega)) (by omega)) rfl ?_
          refine L_gyes rfl rfl ?_
          refine L_y (y_seql rfl rfl) rfl ?_
          refine L_y ((by first | exact y_pickT rfl rfl | exact y_pickF rfl rfl)) rfl ?_
          refine L_nil ?_
          refine hK12 _ _ ?_
          refine T_cond rfl (fun h40 => ?_) (fun h40 => ?_)
          ·
            have h9 : preP s2 (wParent ++ [32]) := (par_iff s2).1 h40
            refine T_skip ?_
            refine hK11 _ _ ?_
            refine T_block ?_
            refine T_seq fun K13 hK13 => ?_
            obtain ⟨m, rfl⟩ : ∃ k, m = k + 1 := ⟨m - 1, by omega⟩
            refine T_region ?_
            refine L_y (y_move rfl) rfl ?_
            refine L_o (o_call Tryz.func78 rfl rfl (rline s2 wParent w13 (by omega) (by decide)) rfl rfl ?_)
            rintro e15 w15 ⟨v15, rfl, l15, hu15⟩
            refine ⟨_, rfl, ?_⟩
            have S15 := S13.like l15
            obtain ⟨tp, s3, f2, hvf2, h1f2, h0f2, hlf2, hmf2⟩ := lineV_b wParent s2
            rw [hvf2] at hu15
            subst hu15
            refine L_y (y_move rfl) rfl ?_
            refine L_y (y_extract rfl rfl) rfl ?_
            refine L_y (y_extract rfl rfl) rfl ?_
            refine L_y (y_extract rfl rfl) rfl ?_
            refine L_y (y_assign rfl) rfl ?_
            refine L_y (y_assign rfl) rfl ?_
            refine L_y (y_assign rfl) rfl ?_
            refine L_nil ?_
            refine hK13 _ _ ?_
            refine T_seq fun K14 hK14 => ?_
            refine T_region ?_
            refine L_y (y_move rfl) rfl ?_
            refine L_o (o_call Tryz.func79 rfl rfl (rreadN tp w15) rfl rfl ?_)
            rintro e16 w16 ⟨v16, rfl, l16, p, hp, rfl⟩
            refine ⟨_, rfl, ?_⟩
            have S16 := S15.like l16
            refine L_y (y_move rfl) rfl ?_
            refine L_y (y_extract rfl rfl) rfl ?_
            refine L_y (y_extract rfl rfl) rfl ?_
            refine L_o (o_stW S16 2 rfl rfl rfl (by rw [List.size_toArray, idf_len]; exact sz41) (by rw [List.size_toArray, idf_len]; simp [Value.cells, idf_len]) (fun u hu => bL_one _ u (by rw [List.toList_toArray] at hu; exact hu)) fun w17 S17 => ?_)
            refine L_y (y_assign rfl) rfl ?_
            refine L_nil ?_
            refine hK14 _ _ ?_
            refine T_seq fun K15 hK15 => ?_
            refine T_seq fun K16 hK16 => ?_
            refine T_region ?_
            refine L_y (y_move rfl) rfl ?_
            refine L_y ((by first | exact y_notD rfl | exact y_not rfl)) rfl ?_
            refine L_y (y_move rfl) rfl ?_
            refine L_splitB 54 rfl (fun h54 => ?_) (fun h54 => ?_)
            ·
              refine L_gno rfl rfl rfl ?_
              refine L_gno rfl rfl rfl ?_
              refine L_y ((by first | exact y_pickT rfl rfl | exact y_pickF rfl rfl)) rfl ?_
              refine L_nil ?_
              refine hK16 _ _ ?_
              refine T_true rfl ?_
              refine T_seq fun K17 hK17 => ?_
              refine T_region ?_
              refine L_y (y_build rfl (show _ = some (cmf zCm).toArray by kernel_rfl)) rfl ?_
              refine L_o (o_stW S17 0 rfl rfl rfl (by rw [cmf_sz]; exact sz83) (by first | (rw [cmf_sz]; done) | (rw [cmf_sz]; rfl)) (fun u hu => cmf_one _ u (by rw [List.toList_toArray] at hu; exact hu)) fun w19 S19 => ?_)
              refine L_y (y_assign rfl) rfl ?_
              refine L_nil ?_
              refine hK17 _ _ ?_
              refine T_ret ?_
              repeat (first | with_reducible refine up_then ?_ | with_reducible refine up_in ?_)
              refine retct rfl rfl rfl (S19.blk 0 rfl) Tryz.underlying83 rfl (by rw [cmf_sz]; exact sz83) ?_
              exact get_out S19.like0 (g2 hid (by rw [hps, parsR_bad h9 (id_bad h1f2 h0f2 (by first | exact .inl (by simpa using h54) | exact .inr h57))]; rfl))
            ·
              refine L_gyes rfl rfl ?_
              refine L_y (y_move rfl) rfl ?_
              refine L_gyes rfl rfl ?_
              refine L_y (y_neq rfl rfl) rfl ?_
              refine L_y ((by first | exact y_pickT rfl rfl | exact y_pickF rfl rfl)) rfl ?_
              refine L_nil ?_
              refine hK16 _ _ ?_
              refine T_cond rfl (fun h57 => ?_) (fun h57 => ?_)
              ·
                refine T_seq fun K18 hK18 => ?_
                refine T_region ?_
                refine L_y (y_build rfl (show _ = some (cmf zCm).toArray by kernel_rfl)) rfl ?_
                refine L_o (o_stW S17 0 rfl rfl rfl (by rw [cmf_sz]; exact sz83) (by first | (rw [cmf_sz]; done) | (rw [cmf_sz]; rfl)) (fun u hu => cmf_one _ u (by rw [List.toList_toArray] at hu; exact hu)) fun w20 S20 => ?_)
                refine L_y (y_assign rfl) rfl ?_
                refine L_nil ?_
                refine hK18 _ _ ?_
                refine T_ret ?_
                repeat (first | with_reducible refine up_then ?_ | with_reducible refine up_in ?_)
                refine retct rfl rfl rfl (S20.blk 0 rfl) Tryz.underlying83 rfl (by rw [cmf_sz]; exact sz83) ?_
                exact get_out S20.like0 (g2 hid (by rw [hps, parsR_bad h9 (id_bad h1f2 h0f2 (by first | exact .inl (by simpa using h54) | exact .inr h57))]; rfl))
              ·
                have hid4 := id_good hp h1f2 (by simpa using h54) (Classical.byContradiction fun e => h57 e)
                have hl4 := hmf2 (by simpa using h54)
                refine T_skip ?_
                refine hK15 _ _ ?_
                refine T_region ?_
                refine L_y (y_fieldA 32 Tryz.underlying83 rfl sz81 rfl rfl rfl) rfl ?_
                refine L_y (y_ldc Tryz.underlying81 rfl rfl (((S17.blk 1 rfl).cell _).trans (cm32 _))) rfl ?_
                refine L_y (y_ldW Tryz.underlying41 rfl sz41 rfl (S17.blk 2 rfl) (⟨by rw [List.drop_zero]; exact List.take_of_length_le (by simp [idf_len]), by rw [idf_len]⟩ : _ = idf _ ∧ _)) rfl ?_
                refine L_o (o_bsl (idf p) te81 zz41 S17 rfl rfl rfl (by simp [Value.cells, idf_len]) (by simp [Value.cells]) rfl rfl rfl fun b21 w21 S21 => ?_)
                refine L_o (o_app te81 S21 3 rfl rfl rfl (by first | exact S21.rd hb | exact S21.row 4 rfl) (fun u hu => bL_one _ u hu) rfl (by omega) (by omega) fun A22 c22 w22 S22 => ?_)
                have S22d := S22.drop (rs' := [_, _, _, _]) (.cons_cons _ (.cons_cons _ (.cons_cons _ (.cons_cons _ (.cons _ (.refl _))))))
                refine L_y (y_fieldA 32 Tryz.underlying83 rfl sz81 rfl rfl rfl) rfl ?_
                refine L_o (o_st1 S22d 1 rfl rfl rfl rfl sz81 (by rw [cmf_sz]; omega) fun w23 S23 => ?_)
                have S24 := S23.blkc 1 rfl (st32 _ _ _ _)
                refine L_nil ?_
                have S9 := S24.rowc 3 rfl (n' := n + 1) (xs' := (ps ++ [p]).flatMap idf) rfl (by rw [List.flatMap_append]; simp; rfl)
                refine ⟨m, s3, ps ++ [p], _, _, _, (tp, f2, (readR tp).2, p), by omega, ⟨⟨by rw [List.length_append, hn]; rfl, by omega, by rw [List.length_append]; simp only [List.length_cons, List.length_nil]; omega, by rw [hps, parsR_step h9 hid4, map_step]⟩, S9⟩, ?_⟩
                exact (Sub.cons rfl (by first | rfl | exact congrArg (Value.int _) (by omega)) (Sub.cons rfl (by first | rfl | exact congrArg (Value.int _) (by omega)) (Sub.cons rfl (by first | rfl | exact congrArg (Value.int _) (by omega)) (Sub.cons rfl (by first | rfl | exact congrArg (Value.int _) (by omega)) (Sub.cons rfl rfl (Sub.cons rfl rfl (Sub.cons rfl rfl (Sub.nil _))))))))
          ·
            refine T_exit ?_
            refine hK10 _ _ ?_
            refine T_seq fun K19 hK19 => ?_
            have hbs2 := bsz s2
            have h9 : ¬ preP s2 (wParent ++ [32]) := by first | exact fun h => h40 ((par_iff s2).2 h) | exact fun h => by have h8 := par7 h; omega
            have hp2 : parsR (s.length + 1) s1 = some (ps, s2) := by rw [hps, parsR_end h9]; simp
            refine T_region ?_
            refine L_y (y_move rfl) rfl ?_
            refine L_o (o_call Tryz.func78 rfl rfl (rline s2 wAuthor w13 (by omega) (by decide)) rfl rfl ?_)
            rintro e25 w25 ⟨v25, rfl, l25, hu25⟩
            refine ⟨_, rfl, ?_⟩
            have S25 := S13.like l25
            obtain ⟨au, s3, f3, hvf3, h1f3, h0f3, hlf3, hmf3⟩ := lineV_b wAuthor s2
            rw [hvf3] at hu25
            subst hu25
            refine L_y (y_move rfl) rfl ?_
            refine L_y (y_extract rfl rfl) rfl ?_
            refine L_y (y_extract rfl rfl) rfl ?_
            refine L_y (y_extract rfl rfl) rfl ?_
            refine L_y (y_fieldA 33 Tryz.underlying83 rfl sz9 rfl rfl rfl) rfl ?_
            refine L_o (o_st1 S25 1 rfl rfl rfl rfl sz9 (by rw [cmf_sz]; omega) fun w26 S26 => ?_)
            have S27 := S26.blkc 1 rfl (st33 _ _)
            refine L_y (y_assign rfl) rfl ?_
            refine L_y (y_assign rfl) rfl ?_
            refine L_nil ?_
            refine hK19 _ _ ?_
            refine T_seq fun K20 hK20 => ?_
            refine T_seq fun K21 hK21 => ?_
            refine T_region ?_
            refine L_y (y_move rfl) rfl ?_
            refine L_y ((by first | exact y_notD rfl | exact y_not rfl)) rfl ?_
            refine L_nil ?_
            refine hK21 _ _ ?_
            refine T_condB rfl (fun h73 => ?_) (fun h73 => ?_)
            ·
              refine T_seq fun K22 hK22 => ?_
              refine T_region ?_
              refine L_y (y_build rfl (show _ = some (cmf zCm).toArray by kernel_rfl)) rfl ?_
              refine L_o (o_stW S27 0 rfl rfl rfl (by rw [cmf_sz]; exact sz83) (by first | (rw [cmf_sz]; done) | (rw [cmf_sz]; rfl)) (fun u hu => cmf_one _ u (by rw [List.toList_toArray] at hu; exact hu)) fun w28 S28 => ?_)
              refine L_y (y_assign rfl) rfl ?_
              refine L_nil ?_
              refine hK22 _ _ ?_
              refine T_ret ?_
              repeat (first | with_reducible refine up_then ?_ | with_reducible refine up_in ?_)
              refine retct rfl rfl rfl (S28.blk 0 rfl) Tryz.underlying83 rfl (by rw [cmf_sz]; exact sz83) ?_
              exact get_out S28.like0 (g3 hid hp2 (h0f3 (by simpa using h73)))
            ·
              have hau := h1f3 (by simpa using h73)
              refine T_skip ?_
              refine hK20 _ _ ?_
              refine T_seq fun K23 hK23 => ?_
              refine T_region ?_
              refine L_y (y_move rfl) rfl ?_
              refine L_o (o_call Tryz.func78 rfl rfl (rline s3 wTime w26 (by omega) (by decide)) rfl rfl ?_)
              rintro e29 w29 ⟨v29, rfl, l29, hu29⟩
              refine ⟨_, rfl, ?_⟩
              have S29 := S27.like l29
              obtain ⟨tn, s4, f4, hvf4, h1f4, h0f4, hlf4, hmf4⟩ := lineV_b wTime s3
              rw [hvf4] at hu29
              subst hu29
              refine L_y (y_move rfl) rfl ?_
              refine L_y (y_extract rfl rfl) rfl ?_
              refine L_y (y_extract rfl rfl) rfl ?_
              refine L_y (y_extract rfl rfl) rfl ?_
              refine L_y (y_assign rfl) rfl ?_
              refine L_y (y_assign rfl) rfl ?_
              refine L_y (y_assign rfl) rfl ?_
              refine L_nil ?_
              refine hK23 _ _ ?_
              refine T_seq fun K24 hK24 => ?_
              refine T_region ?_
              refine L_y (y_move rfl) rfl ?_
              refine L_o (o_call Tryz.func49 rfl rfl (rnumber ⟨tn.toArray⟩ w29) rfl rfl ?_)
              rintro e30 w30 ⟨v30, rfl, l30, hu30⟩
              refine ⟨_, rfl, ?_⟩
              have S30 := S29.like l30
              obtain ⟨va, vb, hnv, hnc⟩ := numR_b tn
              have hnv2 : numR (⟨tn.toArray⟩ : ByteArray).data.toList = .tuple #[.int .i64 va, .int .i64 vb] := hnv
              rw [hnv2] at hu30
              subst hu30
              refine L_y (y_move rfl) rfl ?_
              refine L_y (y_extract rfl rfl) rfl ?_
              refine L_y (y_extract rfl rfl) rfl ?_
              refine L_y (y_assign rfl) rfl ?_
              refine L_y (y_assign rfl) rfl ?_
              refine L_nil ?_
              refine hK24 _ _ ?_
              refine T_seq fun K25 hK25 => ?_
              refine T_seq fun K26 hK26 => ?_
              refine T_region ?_
              refine L_y (y_move rfl) rfl ?_
              refine L_y ((by first | exact y_notD rfl | exact y_not rfl)) rfl ?_
              refine L_y (y_move rfl) rfl ?_
              refine L_splitB 88 rfl (fun h88 => ?_) (fun h88 => ?_)
              ·
                refine L_gno rfl rfl rfl ?_
                refine L_gno rfl rfl rfl ?_
                refine L_y ((by first | exact y_pickT rfl rfl | exact y_pickF rfl rfl)) rfl ?_
                refine L_y (y_move rfl) rfl ?_
                refine L_gno rfl rfl rfl ?_
                refine L_gno rfl rfl rfl ?_
                refine L_y ((by first | exact y_pickT rfl rfl | exact y_pickF rfl rfl)) rfl ?_
                refine L_y (y_move rfl) rfl ?_
                refine L_gno rfl rfl rfl ?_
                refine L_gno rfl rfl rfl ?_
                refine L_gno rfl rfl rfl ?_
                refine L_y ((by first | exact y_pickT rfl rfl | exact y_pickF rfl rfl)) rfl ?_
                refine L_nil ?_
                refine hK26 _ _ ?_
                refine T_true rfl ?_
                refine T_seq fun K27 hK27 => ?_
                refine T_region ?_
                refine L_y (y_build rfl (show _ = some (cmf zCm).toArray by kernel_rfl)) rfl ?_
                refine L_o (o_stW S30 0 rfl rfl rfl (by rw [cmf_sz]; exact sz83) (by first | (rw [cmf_sz]; done) | (rw [cmf_sz]; rfl)) (fun u hu => cmf_one _ u (by rw [List.toList_toArray] at hu; exact hu)) fun w32 S32 => ?_)
                refine L_y (y_assign rfl) rfl ?_
                refine L_nil ?_
                refine hK27 _ _ ?_
                refine T_ret ?_
                repeat (first | with_reducible refine up_then ?_ | with_reducible refine up_in ?_)
                refine retct rfl rfl rfl (S32.blk 0 rfl) Tryz.underlying83 rfl (by rw [cmf_sz]; exact sz83) ?_
                first | exact get_out S32.like0 (g4 hid hp2 hau (numb_bad h1f4 h0f4 (.inl (by simpa using h88)))) | exact get_out S32.like0 (g4 hid hp2 hau (numb_bad h1f4 h0f4 (.inr (hnc.resolve_left (fun h => h92 h.1)).2))) | exact get_out S32.like0 (g5 hid hp2 hau (numb_good h1f4 (by simpa using h88) (hnc.resolve_right (fun h => h92 (by omega))).2.1) (by first | exact textR_n h100 | exact textR_e h96))
              ·
                refine L_gyes rfl rfl ?_
                refine L_y (y_move rfl) rfl ?_
                refine L_gyes rfl rfl ?_
                refine L_y (y_neq rfl rfl) rfl ?_
                refine L_y ((by first | exact y_pickT rfl rfl | exact y_pickF rfl rfl)) rfl ?_
                refine L_y (y_move rfl) rfl ?_
                refine L_split 92 rfl (fun h92 => ?_) (fun h92 => ?_)
                ·
                  refine L_gno rfl rfl rfl ?_
                  refine L_gno rfl rfl rfl ?_
                  refine L_y ((by first | exact y_pickT rfl rfl | exact y_pickF rfl rfl)) rfl ?_
                  refine L_y (y_move rfl) rfl ?_
                  refine L_gno rfl rfl rfl ?_
                  refine L_gno rfl rfl rfl ?_
                  refine L_gno rfl rfl rfl ?_
                  refine L_y ((by first | exact y_pickT rfl rfl | exact y_pickF rfl rfl)) rfl ?_
                  refine L_nil ?_
                  refine hK26 _ _ ?_
                  refine T_true rfl ?_
                  refine T_seq fun K28 hK28 => ?_
                  refine T_region ?_
                  refine L_y (y_build rfl (show _ = some (cmf zCm).toArray by kernel_rfl)) rfl ?_
                  refine L_o (o_stW S30 0 rfl rfl rfl (by rw [cmf_sz]; exact sz83) (by first | (rw [cmf_sz]; done) | (rw [cmf_sz]; rfl)) (fun u hu => cmf_one _ u (by rw [List.toList_toArray] at hu; exact hu)) fun w34 S34 => ?_)
                  refine L_y (y_assign rfl) rfl ?_
                  refine L_nil ?_
                  refine hK28 _ _ ?_
                  refine T_ret ?_
                  repeat (first | with_reducible refine up_then ?_ | with_reducible refine up_in ?_)
                  refine retct rfl rfl rfl (S34.blk 0 rfl) Tryz.underlying83 rfl (by rw [cmf_sz]; exact sz83) ?_
                  first | exact get_out S34.like0 (g4 hid hp2 hau (numb_bad h1f4 h0f4 (.inl (by simpa using h88)))) | exact get_out S34.like0 (g4 hid hp2 hau (numb_bad h1f4 h0f4 (.inr (hnc.resolve_left (fun h => h92 h.1)).2))) | exact get_out S34.like0 (g5 hid hp2 hau (numb_good h1f4 (by simpa using h88) (hnc.resolve_right (fun h => h92 (by omega))).2.1) (by first | exact textR_n h100 | exact textR_e h96))
                ·
                  refine L_gyes rfl rfl ?_
                  refine L_y (y_move rfl) rfl ?_
                  refine L_gyes rfl rfl ?_
                  refine L_y (y_seql rfl rfl) rfl ?_
                  refine L_y ((by first | exact y_pickT rfl rfl | exact y_pickF rfl rfl)) rfl ?_
                  refine L_y (y_move rfl) rfl ?_
                  refine L_split 96 rfl (fun h96 => ?_) (fun h96 => ?_)
                  ·
                    refine L_gno rfl rfl rfl ?_
                    refine L_gno rfl rfl rfl ?_
                    refine L_gno rfl rfl rfl ?_
                    refine L_y ((by first | exact y_pickT rfl rfl | exact y_pickF rfl rfl)) rfl ?_
                    refine L_nil ?_
                    refine hK26 _ _ ?_
                    refine T_true rfl ?_
                    refine T_seq fun K29 hK29 => ?_
                    refine T_region ?_
                    refine L_y (y_build rfl (show _ = some (cmf zCm).toArray by kernel_rfl)) rfl ?_
                    refine L_o (o_stW S30 0 rfl rfl rfl (by rw [cmf_sz]; exact sz83) (by first | (rw [cmf_sz]; done) | (rw [cmf_sz]; rfl)) (fun u hu => cmf_one _ u (by rw [List.toList_toArray] at hu; exact hu)) fun w36 S36 => ?_)
                    refine L_y (y_assign rfl) rfl ?_
                    refine L_nil ?_
                    refine hK29 _ _ ?_
                    refine T_ret ?_
                    repeat (first | with_reducible refine up_then ?_ | with_reducible refine up_in ?_)
                    refine retct rfl rfl rfl (S36.blk 0 rfl) Tryz.underlying83 rfl (by rw [cmf_sz]; exact sz83) ?_
                    first | exact get_out S36.like0 (g4 hid hp2 hau (numb_bad h1f4 h0f4 (.inl (by simpa using h88)))) | exact get_out S36.like0 (g4 hid hp2 hau (numb_bad h1f4 h0f4 (.inr (hnc.resolve_left (fun h => h92 h.1)).2))) | exact get_out S36.like0 (g5 hid hp2 hau (numb_good h1f4 (by simpa using h88) (hnc.resolve_right (fun h => h92 (by omega))).2.1) (by first | exact textR_n h100 | exact textR_e h96))
                  ·
                    have h0s : 0 < s4.length := Nat.pos_of_ne_zero (fun e => h96 (by rw [List.eq_nil_of_length_eq_zero e]))
                    have hbs4 := bsz s4
                    refine L_gyes rfl rfl ?_
                    refine L_y (y_move rfl) rfl ?_
                    refine L_gyes rfl rfl ?_
                    refine L_y (y_idxS Tryz.underlying9 rfl rfl inferInstance (by omega)) rfl ?_
                    refine L_gyes rfl rfl ?_
                    refine L_y (y_neq rfl rfl) rfl ?_
                    refine L_y ((by first | exact y_pickT rfl rfl | exact y_pickF rfl rfl)) rfl ?_
                    refine L_nil ?_
                    refine hK26 _ _ ?_
                    refine T_cond rfl (fun h100 => ?_) (fun h100 => ?_)
                    ·
                      refine T_seq fun K30 hK30 => ?_
                      refine T_region ?_
                      refine L_y (y_build rfl (show _ = some (cmf zCm).toArray by kernel_rfl)) rfl ?_
                      refine L_o (o_stW S30 0 rfl rfl rfl (by rw [cmf_sz]; exact sz83) (by first | (rw [cmf_sz]; done) | (rw [cmf_sz]; rfl)) (fun u hu => cmf_one _ u (by rw [List.toList_toArray] at hu; exact hu)) fun w37 S37 => ?_)
                      refine L_y (y_assign rfl) rfl ?_
                      refine L_nil ?_
                      refine hK30 _ _ ?_
                      refine T_ret ?_
                      repeat (first | with_reducible refine up_then ?_ | with_reducible refine up_in ?_)
                      refine retct rfl rfl rfl (S37.blk 0 rfl) Tryz.underlying83 rfl (by rw [cmf_sz]; exact sz83) ?_
                      first | exact get_out S37.like0 (g4 hid hp2 hau (numb_bad h1f4 h0f4 (.inl (by simpa using h88)))) | exact get_out S37.like0 (g4 hid hp2 hau (numb_bad h1f4 h0f4 (.inr (hnc.resolve_left (fun h => h92 h.1)).2))) | exact get_out S37.like0 (g5 hid hp2 hau (numb_good h1f4 (by simpa using h88) (hnc.resolve_right (fun h => h92 (by omega))).2.1) (by first | exact textR_n h100 | exact textR_e h96))
                    ·
                      subst hn
                      obtain ⟨hvb, hok, rfl⟩ := hnc.resolve_right (fun h => h92 (by omega))
                      have hpx : preP s4 [10] := (pre1 s4).2 ⟨Nat.pos_of_ne_zero (fun e => h96 (by rw [List.eq_nil_of_length_eq_zero e])), Classical.byContradiction fun e => h100 e⟩
                      have h0s : 0 < s4.length := ((pre1 s4).1 hpx).1
                      have hg : getR s = some (⟨t, ps, au, numV tn, s4.drop 1⟩ : CmL) := g6 hid hp2 hau (numb_good h1f4 (by simpa using h88) hok) (by unfold textR; exact if_pos hpx)
                      refine T_skip ?_
                      refine hK25 _ _ ?_
                      refine T_seq fun K31 hK31 => ?_
                      refine T_region ?_
                      refine L_y (y_move rfl) rfl ?_
                      refine L_y (y_fieldA 34 Tryz.underlying83 rfl sz3 rfl rfl rfl) rfl ?_
                      refine L_o (o_st1 S30 1 rfl rfl rfl rfl sz3 (by rw [cmf_sz]; omega) fun w38 S38 => ?_)
                      have S39 := S38.blkc 1 rfl (st34 _ _)
                      refine L_nil ?_
                      refine hK31 _ _ ?_
                      refine T_seq fun K32 hK32 => ?_
                      refine T_region ?_
                      refine L_y (y_move rfl) rfl ?_
                      refine L_y (y_ssliceL (l := 1) Tryz.underlying9 rfl rfl (Nt.mk (by omega)) (by omega)) rfl ?_
                      rw [ext_drop]
                      refine L_y (y_fieldA 35 Tryz.underlying83 rfl sz9 rfl rfl rfl) rfl ?_
                      refine L_o (o_st1 S39 1 rfl rfl rfl rfl sz9 (by rw [cmf_sz]; omega) fun w40 S40 => ?_)
                      have S41 := S40.blkc 1 rfl (st35 _ _)
                      refine L_nil ?_
                      refine hK32 _ _ ?_
                      refine T_seq fun K33 hK33 => ?_
                      refine T_region ?_
                      refine L_y (y_ldW Tryz.underlying83 rfl sz83 rfl (S41.blk 1 rfl) (cm_whole _)) rfl ?_
                      refine L_o (o_call Tryz.func80 rfl rfl (rcheck (cmOf ⟨t, ps, au, numV tn, s4.drop 1⟩ A ps.length c) w40 (S41.row 3 rfl)) rfl rfl ?_)
                      rintro e42 w42 ⟨v42, rfl, l42, rfl⟩
                      refine ⟨_, rfl, ?_⟩
                      have S42 := S41.like l42
                      refine L_y (y_assign rfl) rfl ?_
                      refine L_nil ?_
                      refine hK33 _ _ ?_
                      refine T_seq fun K34 hK34 => ?_
                      refine T_seq fun K35 hK35 => ?_
                      refine T_region ?_
                      refine L_y (y_move rfl) rfl ?_
                      refine L_y (y_neq rfl rfl) rfl ?_
                      refine L_nil ?_
                      refine hK35 _ _ ?_
                      refine T_cond rfl (fun h110 => ?_) (fun h110 => ?_)
                      ·
                        refine T_seq fun K36 hK36 => ?_
                        refine T_region ?_
                        refine L_y (y_build rfl (show _ = some (cmf zCm).toArray by kernel_rfl)) rfl ?_
                        refine L_y (y_move rfl) rfl ?_
                        refine L_o (o_stW S42 0 rfl rfl rfl (by rw [cmf_sz]; exact sz83) (by first | (rw [cmf_sz]; done) | (rw [cmf_sz]; rfl)) (fun u hu => cmf_one _ u (by rw [List.toList_toArray] at hu; exact hu)) fun w43 S43 => ?_)
                        refine L_y (y_assign rfl) rfl ?_
                        refine L_nil ?_
                        refine hK36 _ _ ?_
                        refine T_ret ?_
                        repeat (first | with_reducible refine up_then ?_ | with_reducible refine up_in ?_)
                        refine retct rfl rfl rfl (S43.blk 0 rfl) Tryz.underlying83 rfl (by rw [cmf_sz]; exact sz83) ?_
                        have hgo := go_some hg
                        have h0 : ¬ chk (cmO (⟨t, ps, au, numV tn, s4.drop 1⟩ : CmL)) = 0 := fun e => h110 e
                        have hv : gval s = zL := by rw [hgo.2, if_neg h0]
                        rw [hv, hgo.1]
                        refine ⟨_, rfl, S43.like0, none, 0, fr_nil _ _ _, ?_⟩
                        exact congrArg (fun x => Value.tuple #[.agg (cmf x).toArray, _]) zL_cm.symm
                      ·
                        refine T_skip ?_
                        refine hK34 _ _ ?_
                        refine T_seq fun K37 hK37 => ?_
                        refine T_region ?_
                        refine L_y (y_ldW Tryz.underlying83 rfl sz83 rfl (S42.blk 1 rfl) (cm_whole _)) rfl ?_
                        refine L_o (o_stW S42 0 rfl rfl rfl (by rw [cmf_sz]; exact sz83) (by first | (rw [cmf_sz]; done) | (rw [cmf_sz]; rfl)) (fun u hu => cmf_one _ u (by rw [List.toList_toArray] at hu; exact hu)) fun w44 S44 => ?_)
                        refine L_y (y_assign rfl) rfl ?_
                        refine L_nil ?_
                        refine hK37 _ _ ?_
                        refine T_ret ?_
                        repeat (first | with_reducible refine up_then ?_ | with_reducible refine up_in ?_)
                        refine retct rfl rfl rfl (S44.blk 0 rfl) Tryz.underlying83 rfl (by rw [cmf_sz]; exact sz83) ?_
                        have hgo := go_some hg
                        have h0 : chk (cmO (⟨t, ps, au, numV tn, s4.drop 1⟩ : CmL)) = 0 := Classical.byContradiction fun e => h110 e
                        have hv : gval s = (⟨t, ps, au, numV tn, s4.drop 1⟩ : CmL) := by rw [hgo.2, if_pos h0]
                        rw [hv, hgo.1, h0]
                        exact ⟨_, rfl, S44.like0, A, c, Fr.of_own (S44.own 3 rfl), rfl⟩
        ·
          refine L_gno rfl rfl rfl ?_
          refine L_gno rfl rfl rfl ?_
          refine L_gno rfl rfl rfl ?_
          refine L_y ((by first | exact y_pickT rfl rfl | exact y_pickF rfl rfl)) rfl ?_
          refine L_nil ?_
          refine hK12 _ _ ?_
          refine T_false rfl ?_
          refine T_exit ?_
          refine hK10 _ _ ?_
          refine T_seq fun K38 hK38 => ?_
          have hbs2 := bsz s2
          have h9 : ¬ preP s2 (wParent ++ [32]) := by first | exact fun h => h40 ((par_iff s2).2 h) | exact fun h => by have h8 := par7 h; omega
          have hp2 : parsR (s.length + 1) s1 = some (ps, s2) := by rw [hps, parsR_end h9]; simp
          refine T_region ?_
          refine L_y (y_move rfl) rfl ?_
          refine L_o (o_call Tryz.func78 rfl rfl (rline s2 wAuthor w13 (by omega) (by decide)) rfl rfl ?_)
          rintro e45 w45 ⟨v45, rfl, l45, hu45⟩
          refine ⟨_, rfl, ?_⟩
          have S45 := S13.like l45
          obtain ⟨au, s3, f3, hvf3, h1f3, h0f3, hlf3, hmf3⟩ := lineV_b wAuthor s2
          rw [hvf3] at hu45
          subst hu45
          refine L_y (y_move rfl) rfl ?_
          refine L_y (y_extract rfl rfl) rfl ?_
          refine L_y (y_extract rfl rfl) rfl ?_
          refine L_y (y_extract rfl rfl) rfl ?_
          refine L_y (y_fieldA 33 Tryz.underlying83 rfl sz9 rfl rfl rfl) rfl ?_
          refine L_o (o_st1 S45 1 rfl rfl rfl rfl sz9 (by rw [cmf_sz]; omega) fun w46 S46 => ?_)
          have S47 := S46.blkc 1 rfl (st33 _ _)
          refine L_y (y_assign rfl) rfl ?_
          refine L_y (y_assign rfl) rfl ?_
          refine L_nil ?_
          refine hK38 _ _ ?_
          refine T_seq fun K39 hK39 => ?_
          refine T_seq fun K40 hK40 => ?_
          refine T_region ?_
          refine L_y (y_move rfl) rfl ?_
          refine L_y ((by first | exact y_notD rfl | exact y_not rfl)) rfl ?_
          refine L_nil ?_
          refine hK40 _ _ ?_
          refine T_condB rfl (fun h73 => ?_) (fun h73 => ?_)
          ·
            refine T_seq fun K41 hK41 => ?_
            refine T_region ?_
            refine L_y (y_build rfl (show _ = some (cmf zCm).toArray by kernel_rfl)) rfl ?_
            refine L_o (o_stW S47 0 rfl rfl rfl (by rw [cmf_sz]; exact sz83) (by first | (rw [cmf_sz]; done) | (rw [cmf_sz]; rfl)) (fun u hu => cmf_one _ u (by rw [List.toList_toArray] at hu; exact hu)) fun w48 S48 => ?_)
            refine L_y (y_assign rfl) rfl ?_
            refine L_nil ?_
            refine hK41 _ _ ?_
            refine T_ret ?_
            repeat (first | with_reducible refine up_then ?_ | with_reducible refine up_in ?_)
            refine retct rfl rfl rfl (S48.blk 0 rfl) Tryz.underlying83 rfl (by rw [cmf_sz]; exact sz83) ?_
            exact get_out S48.like0 (g3 hid hp2 (h0f3 (by simpa using h73)))
          ·
            have hau := h1f3 (by simpa using h73)
            refine T_skip ?_
            refine hK39 _ _ ?_
            refine T_seq fun K42 hK42 => ?_
            refine T_region ?_
            refine L_y (y_move rfl) rfl ?_
            refine L_o (o_call Tryz.func78 rfl rfl (rline s3 wTime w46 (by omega) (by decide)) rfl rfl ?_)
            rintro e49 w49 ⟨v49, rfl, l49, hu49⟩
            refine ⟨_, rfl, ?_⟩
            have S49 := S47.like l49
            obtain ⟨tn, s4, f4, hvf4, h1f4, h0f4, hlf4, hmf4⟩ := lineV_b wTime s3
            rw [hvf4] at hu49
            subst hu49
            refine L_y (y_move rfl) rfl ?_
            refine L_y (y_extract rfl rfl) rfl ?_
            refine L_y (y_extract rfl rfl) rfl ?_
            refine L_y (y_extract rfl rfl) rfl ?_
            refine L_y (y_assign rfl) rfl ?_
            refine L_y (y_assign rfl) rfl ?_
            refine L_y (y_assign rfl) rfl ?_
            refine L_nil ?_
            refine hK42 _ _ ?_
            refine T_seq fun K43 hK43 => ?_
            refine T_region ?_
            refine L_y (y_move rfl) rfl ?_
            refine L_o (o_call Tryz.func49 rfl rfl (rnumber ⟨tn.toArray⟩ w49) rfl rfl ?_)
            rintro e50 w50 ⟨v50, rfl, l50, hu50⟩
            refine ⟨_, rfl, ?_⟩
            have S50 := S49.like l50
            obtain ⟨va, vb, hnv, hnc⟩ := numR_b tn
            have hnv2 : numR (⟨tn.toArray⟩ : ByteArray).data.toList = .tuple #[.int .i64 va, .int .i64 vb] := hnv
            rw [hnv2] at hu50
            subst hu50
            refine L_y (y_move rfl) rfl ?_
            refine L_y (y_extract rfl rfl) rfl ?_
            refine L_y (y_extract rfl rfl) rfl ?_
            refine L_y (y_assign rfl) rfl ?_
            refine L_y (y_assign rfl) rfl ?_
            refine L_nil ?_
            refine hK43 _ _ ?_
            refine T_seq fun K44 hK44 => ?_
            refine T_seq fun K45 hK45 => ?_
            refine T_region ?_
            refine L_y (y_move rfl) rfl ?_
            refine L_y ((by first | exact y_notD rfl | exact y_not rfl)) rfl ?_
            refine L_y (y_move rfl) rfl ?_
            refine L_splitB 88 rfl (fun h88 => ?_) (fun h88 => ?_)
            ·
              refine L_gno rfl rfl rfl ?_
              refine L_gno rfl rfl rfl ?_
              refine L_y ((by first | exact y_pickT rfl rfl | exact y_pickF rfl rfl)) rfl ?_
              refine L_y (y_move rfl) rfl ?_
              refine L_gno rfl rfl rfl ?_
              refine L_gno rfl rfl rfl ?_
              refine L_y ((by first | exact y_pickT rfl rfl | exact y_pickF rfl rfl)) rfl ?_
              refine L_y (y_move rfl) rfl ?_
              refine L_gno rfl rfl rfl ?_
              refine L_gno rfl rfl rfl ?_
              refine L_gno rfl rfl rfl ?_
              refine L_y ((by first | exact y_pickT rfl rfl | exact y_pickF rfl rfl)) rfl ?_
              refine L_nil ?_
              refine hK45 _ _ ?_
              refine T_true rfl ?_
              refine T_seq fun K46 hK46 => ?_
              refine T_region ?_
              refine L_y (y_build rfl (show _ = some (cmf zCm).toArray by kernel_rfl)) rfl ?_
              refine L_o (o_stW S50 0 rfl rfl rfl (by rw [cmf_sz]; exact sz83) (by first | (rw [cmf_sz]; done) | (rw [cmf_sz]; rfl)) (fun u hu => cmf_one _ u (by rw [List.toList_toArray] at hu; exact hu)) fun w52 S52 => ?_)
              refine L_y (y_assign rfl) rfl ?_
              refine L_nil ?_
              refine hK46 _ _ ?_
              refine T_ret ?_
              repeat (first | with_reducible refine up_then ?_ | with_reducible refine up_in ?_)
              refine retct rfl rfl rfl (S52.blk 0 rfl) Tryz.underlying83 rfl (by rw [cmf_sz]; exact sz83) ?_
              first | exact get_out S52.like0 (g4 hid hp2 hau (numb_bad h1f4 h0f4 (.inl (by simpa using h88)))) | exact get_out S52.like0 (g4 hid hp2 hau (numb_bad h1f4 h0f4 (.inr (hnc.resolve_left (fun h => h92 h.1)).2))) | exact get_out S52.like0 (g5 hid hp2 hau (numb_good h1f4 (by simpa using h88) (hnc.resolve_right (fun h => h92 (by omega))).2.1) (by first | exact textR_n h100 | exact textR_e h96))
            ·
              refine L_gyes rfl rfl ?_
              refine L_y (y_move rfl) rfl ?_
              refine L_gyes rfl rfl ?_
              refine L_y (y_neq rfl rfl) rfl ?_
              refine L_y ((by first | exact y_pickT rfl rfl | exact y_pickF rfl rfl)) rfl ?_
              refine L_y (y_move rfl) rfl ?_
              refine L_split 92 rfl (fun h92 => ?_) (fun h92 => ?_)
              ·
                refine L_gno rfl rfl rfl ?_
                refine L_gno rfl rfl rfl ?_
                refine L_y ((by first | exact y_pickT rfl rfl | exact y_pickF rfl rfl)) rfl ?_
                refine L_y (y_move rfl) rfl ?_
                refine L_gno rfl rfl rfl ?_
                refine L_gno rfl rfl rfl ?_
                refine L_gno rfl rfl rfl ?_
                refine L_y ((by first | exact y_pickT rfl rfl | exact y_pickF rfl rfl)) rfl ?_
                refine L_nil ?_
                refine hK45 _ _ ?_
                refine T_true rfl ?_
                refine T_seq fun K47 hK47 => ?_
                refine T_region ?_
                refine L_y (y_build rfl (show _ = some (cmf zCm).toArray by kernel_rfl)) rfl ?_
                refine L_o (o_stW S50 0 rfl rfl rfl (by rw [cmf_sz]; exact sz83) (by first | (rw [cmf_sz]; done) | (rw [cmf_sz]; rfl)) (fun u hu => cmf_one _ u (by rw [List.toList_toArray] at hu; exact hu)) fun w54 S54 => ?_)
                refine L_y (y_assign rfl) rfl ?_
                refine L_nil ?_
                refine hK47 _ _ ?_
                refine T_ret ?_
                repeat (first | with_reducible refine up_then ?_ | with_reducible refine up_in ?_)
                refine retct rfl rfl rfl (S54.blk 0 rfl) Tryz.underlying83 rfl (by rw [cmf_sz]; exact sz83) ?_
                first | exact get_out S54.like0 (g4 hid hp2 hau (numb_bad h1f4 h0f4 (.inl (by simpa using h88)))) | exact get_out S54.like0 (g4 hid hp2 hau (numb_bad h1f4 h0f4 (.inr (hnc.resolve_left (fun h => h92 h.1)).2))) | exact get_out S54.like0 (g5 hid hp2 hau (numb_good h1f4 (by simpa using h88) (hnc.resolve_right (fun h => h92 (by omega))).2.1) (by first | exact textR_n h100 | exact textR_e h96))
              ·
                refine L_gyes rfl rfl ?_
                refine L_y (y_move rfl) rfl ?_
                refine L_gyes rfl rfl ?_
                refine L_y (y_seql rfl rfl) rfl ?_
                refine L_y ((by first | exact y_pickT rfl rfl | exact y_pickF rfl rfl)) rfl ?_
                refine L_y (y_move rfl) rfl ?_
                refine L_split 96 rfl (fun h96 => ?_) (fun h96 => ?_)
                ·
                  refine L_gno rfl rfl rfl ?_
                  refine L_gno rfl rfl rfl ?_
                  refine L_gno rfl rfl rfl ?_
                  refine L_y ((by first | exact y_pickT rfl rfl | exact y_pickF rfl rfl)) rfl ?_
                  refine L_nil ?_
                  refine hK45 _ _ ?_
                  refine T_true rfl ?_
                  refine T_seq fun K48 hK48 => ?_
                  refine T_region ?_
                  refine L_y (y_build rfl (show _ = some (cmf zCm).toArray by kernel_rfl)) rfl ?_
                  refine L_o (o_stW S50 0 rfl rfl rfl (by rw [cmf_sz]; exact sz83) (by first | (rw [cmf_sz]; done) | (rw [cmf_sz]; rfl)) (fun u hu => cmf_one _ u (by rw [List.toList_toArray] at hu; exact hu)) fun w56 S56 => ?_)
                  refine L_y (y_assign rfl) rfl ?_
                  refine L_nil ?_
                  refine hK48 _ _ ?_
                  refine T_ret ?_
                  repeat (first | with_reducible refine up_then ?_ | with_reducible refine up_in ?_)
                  refine retct rfl rfl rfl (S56.blk 0 rfl) Tryz.underlying83 rfl (by rw [cmf_sz]; exact sz83) ?_
                  first | exact get_out S56.like0 (g4 hid hp2 hau (numb_bad h1f4 h0f4 (.inl (by simpa using h88)))) | exact get_out S56.like0 (g4 hid hp2 hau (numb_bad h1f4 h0f4 (.inr (hnc.resolve_left (fun h => h92 h.1)).2))) | exact get_out S56.like0 (g5 hid hp2 hau (numb_good h1f4 (by simpa using h88) (hnc.resolve_right (fun h => h92 (by omega))).2.1) (by first | exact textR_n h100 | exact textR_e h96))
                ·
                  have h0s : 0 < s4.length := Nat.pos_of_ne_zero (fun e => h96 (by rw [List.eq_nil_of_length_eq_zero e]))
                  have hbs4 := bsz s4
                  refine L_gyes rfl rfl ?_
                  refine L_y (y_move rfl) rfl ?_
                  refine L_gyes rfl rfl ?_
                  refine L_y (y_idxS Tryz.underlying9 rfl rfl inferInstance (by omega)) rfl ?_
                  refine L_gyes rfl rfl ?_
                  refine L_y (y_neq rfl rfl) rfl ?_
                  refine L_y ((by first | exact y_pickT rfl rfl | exact y_pickF rfl rfl)) rfl ?_
                  refine L_nil ?_
                  refine hK45 _ _ ?_
                  refine T_cond rfl (fun h100 => ?_) (fun h100 => ?_)
                  ·
                    refine T_seq fun K49 hK49 => ?_
                    refine T_region ?_
                    refine L_y (y_build rfl (show _ = some (cmf zCm).toArray by kernel_rfl)) rfl ?_
                    refine L_o (o_stW S50 0 rfl rfl rfl (by rw [cmf_sz]; exact sz83) (by first | (rw [cmf_sz]; done) | (rw [cmf_sz]; rfl)) (fun u hu => cmf_one _ u (by rw [List.toList_toArray] at hu; exact hu)) fun w57 S57 => ?_)
                    refine L_y (y_assign rfl) rfl ?_
                    refine L_nil ?_
                    refine hK49 _ _ ?_
                    refine T_ret ?_
                    repeat (first | with_reducible refine up_then ?_ | with_reducible refine up_in ?_)
                    refine retct rfl rfl rfl (S57.blk 0 rfl) Tryz.underlying83 rfl (by rw [cmf_sz]; exact sz83) ?_
                    first | exact get_out S57.like0 (g4 hid hp2 hau (numb_bad h1f4 h0f4 (.inl (by simpa using h88)))) | exact get_out S57.like0 (g4 hid hp2 hau (numb_bad h1f4 h0f4 (.inr (hnc.resolve_left (fun h => h92 h.1)).2))) | exact get_out S57.like0 (g5 hid hp2 hau (numb_good h1f4 (by simpa using h88) (hnc.resolve_right (fun h => h92 (by omega))).2.1) (by first | exact textR_n h100 | exact textR_e h96))
                  ·
                    subst hn
                    obtain ⟨hvb, hok, rfl⟩ := hnc.resolve_right (fun h => h92 (by omega))
                    have hpx : preP s4 [10] := (pre1 s4).2 ⟨Nat.pos_of_ne_zero (fun e => h96 (by rw [List.eq_nil_of_length_eq_zero e])), Classical.byContradiction fun e => h100 e⟩
                    have h0s : 0 < s4.length := ((pre1 s4).1 hpx).1
                    have hg : getR s = some (⟨t, ps, au, numV tn, s4.drop 1⟩ : CmL) := g6 hid hp2 hau (numb_good h1f4 (by simpa using h88) hok) (by unfold textR; exact if_pos hpx)
                    refine T_skip ?_
                    refine hK44 _ _ ?_
                    refine T_seq fun K50 hK50 => ?_
                    refine T_region ?_
                    refine L_y (y_move rfl) rfl ?_
                    refine L_y (y_fieldA 34 Tryz.underlying83 rfl sz3 rfl rfl rfl) rfl ?_
                    refine L_o (o_st1 S50 1 rfl rfl rfl rfl sz3 (by rw [cmf_sz]; omega) fun w58 S58 => ?_)
                    have S59 := S58.blkc 1 rfl (st34 _ _)
                    refine L_nil ?_
                    refine hK50 _ _ ?_
                    refine T_seq fun K51 hK51 => ?_
                    refine T_region ?_
                    refine L_y (y_move rfl) rfl ?_
                    refine L_y (y_ssliceL (l := 1) Tryz.underlying9 rfl rfl (Nt.mk (by omega)) (by omega)) rfl ?_
                    rw [ext_drop]
                    refine L_y (y_fieldA 35 Tryz.underlying83 rfl sz9 rfl rfl rfl) rfl ?_
                    refine L_o (o_st1 S59 1 rfl rfl rfl rfl sz9 (by rw [cmf_sz]; omega) fun w60 S60 => ?_)
                    have S61 := S60.blkc 1 rfl (st35 _ _)
                    refine L_nil ?_
                    refine hK51 _ _ ?_
                    refine T_seq fun K52 hK52 => ?_
                    refine T_region ?_
                    refine L_y (y_ldW Tryz.underlying83 rfl sz83 rfl (S61.blk 1 rfl) (cm_whole _)) rfl ?_
                    refine L_o (o_call Tryz.func80 rfl rfl (rcheck (cmOf ⟨t, ps, au, numV tn, s4.drop 1⟩ A ps.length c) w60 (S61.row 3 rfl)) rfl rfl ?_)
                    rintro e62 w62 ⟨v62, rfl, l62, rfl⟩
                    refine ⟨_, rfl, ?_⟩
                    have S62 := S61.like l62
                    refine L_y (y_assign rfl) rfl ?_
                    refine L_nil ?_
                    refine hK52 _ _ ?_
                    refine T_seq fun K53 hK53 => ?_
                    refine T_seq fun K54 hK54 => ?_
                    refine T_region ?_
                    refine L_y (y_move rfl) rfl ?_
                    refine L_y (y_neq rfl rfl) rfl ?_
                    refine L_nil ?_
                    refine hK54 _ _ ?_
                    refine T_cond rfl (fun h110 => ?_) (fun h110 => ?_)
                    ·
                      refine T_seq fun K55 hK55 => ?_
                      refine T_region ?_
                      refine L_y (y_build rfl (show _ = some (cmf zCm).toArray by kernel_rfl)) rfl ?_
                      refine L_y (y_move rfl) rfl ?_
                      refine L_o (o_stW S62 0 rfl rfl rfl (by rw [cmf_sz]; exact sz83) (by first | (rw [cmf_sz]; done) | (rw [cmf_sz]; rfl)) (fun u hu => cmf_one _ u (by rw [List.toList_toArray] at hu; exact hu)) fun w63 S63 => ?_)
                      refine L_y (y_assign rfl) rfl ?_
                      refine L_nil ?_
                      refine hK55 _ _ ?_
                      refine T_ret ?_
                      repeat (first | with_reducible refine up_then ?_ | with_reducible refine up_in ?_)
                      refine retct rfl rfl rfl (S63.blk 0 rfl) Tryz.underlying83 rfl (by rw [cmf_sz]; exact sz83) ?_
                      have hgo := go_some hg
                      have h0 : ¬ chk (cmO (⟨t, ps, au, numV tn, s4.drop 1⟩ : CmL)) = 0 := fun e => h110 e
                      have hv : gval s = zL := by rw [hgo.2, if_neg h0]
                      rw [hv, hgo.1]
                      refine ⟨_, rfl, S63.like0, none, 0, fr_nil _ _ _, ?_⟩
                      exact congrArg (fun x => Value.tuple #[.agg (cmf x).toArray, _]) zL_cm.symm
                    ·
                      refine T_skip ?_
                      refine hK53 _ _ ?_
                      refine T_seq fun K56 hK56 => ?_
                      refine T_region ?_
                      refine L_y (y_ldW Tryz.underlying83 rfl sz83 rfl (S62.blk 1 rfl) (cm_whole _)) rfl ?_
                      refine L_o (o_stW S62 0 rfl rfl rfl (by rw [cmf_sz]; exact sz83) (by first | (rw [cmf_sz]; done) | (rw [cmf_sz]; rfl)) (fun u hu => cmf_one _ u (by rw [List.toList_toArray] at hu; exact hu)) fun w64 S64 => ?_)
                      refine L_y (y_assign rfl) rfl ?_
                      refine L_nil ?_
                      refine hK56 _ _ ?_
                      refine T_ret ?_
                      repeat (first | with_reducible refine up_then ?_ | with_reducible refine up_in ?_)
                      refine retct rfl rfl rfl (S64.blk 0 rfl) Tryz.underlying83 rfl (by rw [cmf_sz]; exact sz83) ?_
                      have hgo := go_some hg
                      have h0 : chk (cmO (⟨t, ps, au, numV tn, s4.drop 1⟩ : CmL)) = 0 := Classical.byContradiction fun e => h110 e
                      have hv : gval s = (⟨t, ps, au, numV tn, s4.drop 1⟩ : CmL) := by rw [hgo.2, if_pos h0]
                      rw [hv, hgo.1, h0]
                      exact ⟨_, rfl, S64.like0, A, c, Fr.of_own (S64.own 3 rfl), rfl⟩
end Go.Proofs.YtgaklngnfecdaaaGreat.Rev


/-
  Same.
-/
namespace Go.Proofs.YtgaklngnfecdaaaGreat.Rev
open Go.RowKit Zk Zx
open Oid (idf hexL idf_len readR)
open Tre (nmOk)
set_option linter.unusedVariables false
set_option linter.unusedSimpArgs false

end Go.Proofs.YtgaklngnfecdaaaGreat.Rev


/-
  The law RevGets.
-/
namespace Go.Proofs.YtgaklngnfecdaaaGreat.Rev
open Go.RowKit Zk Zx
open Oid (idf hexL idf_len readR)
open Tre (nmOk)
set_option linter.unusedVariables false
set_option linter.unusedSimpArgs false

end Go.Proofs.YtgaklngnfecdaaaGreat.Rev


/-
  A commit's bytes and back: plain laws.
-/
namespace Go.Proofs.YtgaklngnfecdaaaGreat.Rev
open Go.RowKit Zk Zx
open Oid (idf hexL idf_len readR read_hex hex_read)
open Tre (nmOk)
set_option linter.unusedVariables false
set_option linter.unusedSimpArgs false

/-! ### numbers -/
/-! ### lines -/
end Go.Proofs.YtgaklngnfecdaaaGreat.Rev


/-
  The law RevBack.
-/
namespace Go.Proofs.YtgaklngnfecdaaaGreat.Rev
open Go.RowKit Zk Zx
open Oid (idf hexL idf_len readR)
open Tre (nmOk)
set_option linter.unusedVariables false
set_option linter.unusedSimpArgs false

end Go.Proofs.YtgaklngnfecdaaaGreat.Rev


/-
  Tags: Check and Put.
-/
namespace Go.Proofs.YtgaklngnfecdaaaGreat.Rev
open Go.RowKit Zk Zx
open Oid (idf hexL ris ris_ne idf_len length_hexL)
open Tre (nmOk)
set_option linter.unusedVariables false
set_option linter.unusedSimpArgs false

theorem mkf_len (x : Mk) : (mkf x).length = 36 := by simp [mkf, idf_len]
theorem mkf_sz (x : Mk) : (mkf x).toArray.size = 36 := by rw [List.size_toArray, mkf_len]
theorem mkf_one (x : Mk) : ∀ u ∈ mkf x, u.oneCell' = true := fun u hu => by
  rcases List.mem_append.1 hu with h | h
  · exact bL_one _ u h
  · simp at h
    rcases h with rfl | rfl | rfl | rfl <;> rfl
theorem mk_at (x : Mk) (k : Nat) : (mkf x).toArray[32 + k]? = [Value.int .i64 x.kd, .string x.nm, .int .i64 x.tm, .string x.tx][k]? := by
  rw [List.getElem?_toArray, mkf, List.getElem?_append_right (by rw [idf_len]; omega), idf_len]
  congr 1
  omega
theorem mk32 (x : Mk) : (mkf x).toArray[32]? = some (.int .i64 x.kd) := mk_at x 0
theorem mk33 (x : Mk) : (mkf x).toArray[33]? = some (.string x.nm) := mk_at x 1
theorem mk34 (x : Mk) : (mkf x).toArray[34]? = some (.int .i64 x.tm) := mk_at x 2
theorem mk35 (x : Mk) : (mkf x).toArray[35]? = some (.string x.tx) := mk_at x 3
theorem mk_whole (x : Mk) : ((mkf x).toArray.toList.drop 0).take 36 = mkf x ∧ (mkf x).length = 36 := ⟨by rw [List.drop_zero]; exact List.take_of_length_le (by have := mkf_len x; simp only [] at this ⊢; omega), mkf_len x⟩
/-- What CheckMark answers. -/
def chkM (x : Mk) : Int := if 400 < x.tx.size then 3 else if x.kd < 1 ∨ 4 < x.kd then 19 else if nmOk x.nm = false then 15 else if x.tm < 0 ∨ 1099511627776 < x.tm then 2 else 0
def wObject : List UInt8 := [111, 98, 106, 101, 99, 116]
def wKind : List UInt8 := [107, 105, 110, 100]
def wName : List UInt8 := [110, 97, 109, 101]
set_option maxRecDepth 100000 in
theorem checkM (x : Mk) (w0 : World)  :
    Calls Tryz.prog 111 #[.agg (mkf x).toArray] w0 fun e w' => ∃ u, e = .returned u ∧ Like w0 w' ∧ u = .int .i64 (chkM x) := by
  refine enter1 (env := [(0, .agg (mkf x).toArray)]) [.agg (mkf x).toArray] Tryz.func111 rfl Tryz.ntmps111 rfl rfl ?_
  have S0 := St.start w0 noM
  refine T_seq fun K1 hK1 => ?_
  refine T_region ?_
  refine L_o (o_box rfl S0 rfl fun b1 w1 hb1 S1 => ?_)
  refine L_y (y_assign rfl) rfl ?_
  refine L_nil ?_
  refine hK1 _ _ ?_
  refine T_seq fun K2 hK2 => ?_
  refine T_block ?_
  refine T_seq fun K3 hK3 => ?_
  refine T_region ?_
  refine L_y (y_fieldA 35 Tryz.underlying87 rfl sz9 rfl rfl rfl) rfl ?_
  refine L_y (y_ldc Tryz.underlying9 rfl rfl (((S1.blk 0 rfl).cell _).trans (mk35 x))) rfl ?_
  refine L_y (y_lens Tryz.underlying9 rfl) rfl ?_
  refine L_y (y_gtr rfl rfl) rfl ?_
  refine L_y (y_assign rfl) rfl ?_
  refine L_nil ?_
  refine hK3 _ _ ?_
  refine T_cond rfl (fun h3 => ?_) (fun h3 => ?_)
  ·
    refine T_seq fun K4 hK4 => ?_
    refine T_region ?_
    refine L_y (y_assign rfl) rfl ?_
    refine L_nil ?_
    refine hK4 _ _ ?_
    refine T_ret ?_
    repeat (first | with_reducible refine up_then ?_ | with_reducible refine up_in ?_)
    refine ret1 rfl rfl ?_
    exact ⟨_, rfl, S1.like0, by unfold chkM; first | rw [if_pos (by omega)] | rw [if_neg (by omega), if_pos (by omega)] | rw [if_neg (by omega), if_neg (by omega), if_pos hnm] | rw [if_neg (by omega), if_neg (by omega), if_neg hnm, if_pos htm] | rw [if_neg (by omega), if_neg (by omega), if_neg hnm, if_neg htm]⟩
  ·
    refine T_seq fun K5 hK5 => ?_
    refine T_region ?_
    refine L_y (y_fieldA 32 Tryz.underlying87 rfl sz3 rfl rfl rfl) rfl ?_
    refine L_y (y_ldc Tryz.underlying3 rfl rfl (((S1.blk 0 rfl).cell _).trans (mk32 x))) rfl ?_
    refine L_y (y_lss rfl rfl) rfl ?_
    refine L_y (y_move rfl) rfl ?_
    refine L_split 12 rfl (fun h12 => ?_) (fun h12 => ?_)
    ·
      refine L_gno rfl rfl rfl ?_
      refine L_gno rfl rfl rfl ?_
      refine L_gno rfl rfl rfl ?_
      refine L_y ((by first | exact y_pickT rfl rfl | exact y_pickF rfl rfl)) rfl ?_
      refine L_y (y_assign rfl) rfl ?_
      refine L_nil ?_
      refine hK5 _ _ ?_
      refine T_true rfl ?_
      refine T_seq fun K6 hK6 => ?_
      refine T_region ?_
      refine L_y (y_assign rfl) rfl ?_
      refine L_nil ?_
      refine hK6 _ _ ?_
      refine T_ret ?_
      repeat (first | with_reducible refine up_then ?_ | with_reducible refine up_in ?_)
      refine ret1 rfl rfl ?_
      exact ⟨_, rfl, S1.like0, by unfold chkM; first | rw [if_pos (by omega)] | rw [if_neg (by omega), if_pos (by omega)] | rw [if_neg (by omega), if_neg (by omega), if_pos hnm] | rw [if_neg (by omega), if_neg (by omega), if_neg hnm, if_pos htm] | rw [if_neg (by omega), if_neg (by omega), if_neg hnm, if_neg htm]⟩
    ·
      refine L_gyes rfl rfl ?_
      refine L_y (y_fieldA 32 Tryz.underlying87 rfl sz3 rfl rfl rfl) rfl ?_
      refine L_gyes rfl rfl ?_
      refine L_y (y_ldc Tryz.underlying3 rfl rfl (((S1.blk 0 rfl).cell _).trans (mk32 x))) rfl ?_
      refine L_gyes rfl rfl ?_
      refine L_y (y_gtr rfl rfl) rfl ?_
      refine L_y ((by first | exact y_pickT rfl rfl | exact y_pickF rfl rfl)) rfl ?_
      refine L_y (y_assign rfl) rfl ?_
      refine L_nil ?_
      refine hK5 _ _ ?_
      refine T_cond rfl (fun h8 => ?_) (fun h8 => ?_)
      ·
        refine T_seq fun K7 hK7 => ?_
        refine T_region ?_
        refine L_y (y_assign rfl) rfl ?_
        refine L_nil ?_
        refine hK7 _ _ ?_
        refine T_ret ?_
        repeat (first | with_reducible refine up_then ?_ | with_reducible refine up_in ?_)
        refine ret1 rfl rfl ?_
        exact ⟨_, rfl, S1.like0, by unfold chkM; first | rw [if_pos (by omega)] | rw [if_neg (by omega), if_pos (by omega)] | rw [if_neg (by omega), if_neg (by omega), if_pos hnm] | rw [if_neg (by omega), if_neg (by omega), if_neg hnm, if_pos htm] | rw [if_neg (by omega), if_neg (by omega), if_neg hnm, if_neg htm]⟩
      ·
        refine T_seq fun K8 hK8 => ?_
        refine T_region ?_
        refine L_y (y_fieldA 33 Tryz.underlying87 rfl sz9 rfl rfl rfl) rfl ?_
        refine L_y (y_ldc Tryz.underlying9 rfl rfl (((S1.blk 0 rfl).cell _).trans (mk33 x))) rfl ?_
        refine L_o (o_call Tryz.func142 rfl rfl (Tre.pname x.nm w1) rfl rfl ?_)
        rintro e3 w3 ⟨v3, rfl, l3, rfl⟩
        refine ⟨_, rfl, ?_⟩
        have S3 := S1.like l3
        refine L_y ((by first | exact y_notD rfl | exact y_not rfl)) rfl ?_
        refine L_y (y_assign rfl) rfl ?_
        refine L_nil ?_
        refine hK8 _ _ ?_
        refine T_condB rfl (fun h17 => ?_) (fun h17 => ?_)
        ·
          have hnm : nmOk x.nm = false := by simpa using h17
          refine T_seq fun K9 hK9 => ?_
          refine T_region ?_
          refine L_y (y_assign rfl) rfl ?_
          refine L_nil ?_
          refine hK9 _ _ ?_
          refine T_ret ?_
          repeat (first | with_reducible refine up_then ?_ | with_reducible refine up_in ?_)
          refine ret1 rfl rfl ?_
          exact ⟨_, rfl, S3.like0, by unfold chkM; first | rw [if_pos (by omega)] | rw [if_neg (by omega), if_pos (by omega)] | rw [if_neg (by omega), if_neg (by omega), if_pos hnm] | rw [if_neg (by omega), if_neg (by omega), if_neg hnm, if_pos htm] | rw [if_neg (by omega), if_neg (by omega), if_neg hnm, if_neg htm]⟩
        ·
          have hnm : ¬ nmOk x.nm = false := by simpa using h17
          refine T_seq fun K10 hK10 => ?_
          refine T_region ?_
          refine L_y (y_fieldA 34 Tryz.underlying87 rfl sz3 rfl rfl rfl) rfl ?_
          refine L_y (y_ldc Tryz.underlying3 rfl rfl (((S3.blk 0 rfl).cell _).trans (mk34 x))) rfl ?_
          refine L_o (o_call Tryz.func151 rfl rfl (time_ x.tm w3) rfl rfl ?_)
          rintro e4 w4 ⟨v4, rfl, l4, rfl⟩
          refine ⟨_, rfl, ?_⟩
          have S4 := S3.like l4
          refine L_y ((by first | exact y_notD rfl | exact y_not rfl)) rfl ?_
          refine L_y (y_assign rfl) rfl ?_
          refine L_nil ?_
          refine hK10 _ _ ?_
          refine T_condB rfl (fun h22 => ?_) (fun h22 => ?_)
          ·
            have htm : x.tm < 0 ∨ 1099511627776 < x.tm := by simpa using h22
            refine T_seq fun K11 hK11 => ?_
            refine T_region ?_
            refine L_y (y_assign rfl) rfl ?_
            refine L_nil ?_
            refine hK11 _ _ ?_
            refine T_ret ?_
            repeat (first | with_reducible refine up_then ?_ | with_reducible refine up_in ?_)
            refine ret1 rfl rfl ?_
            exact ⟨_, rfl, S4.like0, by unfold chkM; first | rw [if_pos (by omega)] | rw [if_neg (by omega), if_pos (by omega)] | rw [if_neg (by omega), if_neg (by omega), if_pos hnm] | rw [if_neg (by omega), if_neg (by omega), if_neg hnm, if_pos htm] | rw [if_neg (by omega), if_neg (by omega), if_neg hnm, if_neg htm]⟩
          ·
            have htm : ¬ (x.tm < 0 ∨ 1099511627776 < x.tm) := by simpa using h22
            refine T_skip ?_
            refine hK2 _ _ ?_
            refine T_seq fun K12 hK12 => ?_
            refine T_region ?_
            refine L_y (y_assign rfl) rfl ?_
            refine L_nil ?_
            refine hK12 _ _ ?_
            refine T_ret ?_
            repeat (first | with_reducible refine up_then ?_ | with_reducible refine up_in ?_)
            refine ret1 rfl rfl ?_
            exact ⟨_, rfl, S4.like0, by unfold chkM; first | rw [if_pos (by omega)] | rw [if_neg (by omega), if_pos (by omega)] | rw [if_neg (by omega), if_neg (by omega), if_pos hnm] | rw [if_neg (by omega), if_neg (by omega), if_neg hnm, if_pos htm] | rw [if_neg (by omega), if_neg (by omega), if_neg hnm, if_neg htm]⟩


set_option maxRecDepth 100000 in
theorem rcheckM (x : Mk) (w0 : World)  :
    Calls Tryz.prog 81 #[.agg (mkf x).toArray] w0 fun e w' => ∃ u, e = .returned u ∧ Like w0 w' ∧ u = .int .i64 (chkM x) := by
  refine enter1 (env := [(0, .agg (mkf x).toArray)]) [.agg (mkf x).toArray] Tryz.func81 rfl Tryz.ntmps81 rfl rfl ?_
  have S0 := St.start w0 noM
  refine T_seq fun K1 hK1 => ?_
  refine T_region ?_
  refine L_o (o_box rfl S0 rfl fun b1 w1 hb1 S1 => ?_)
  refine L_y (y_assign rfl) rfl ?_
  refine L_nil ?_
  refine hK1 _ _ ?_
  refine T_seq fun K2 hK2 => ?_
  refine T_seq fun K3 hK3 => ?_
  refine T_region ?_
  refine L_y (y_fieldA 35 Tryz.underlying87 rfl sz9 rfl rfl rfl) rfl ?_
  refine L_y (y_ldc Tryz.underlying9 rfl rfl (((S1.blk 0 rfl).cell _).trans (mk35 x))) rfl ?_
  refine L_y (y_lens Tryz.underlying9 rfl) rfl ?_
  refine L_y (y_gtr rfl rfl) rfl ?_
  refine L_nil ?_
  refine hK3 _ _ ?_
  refine T_cond rfl (fun h6 => ?_) (fun h6 => ?_)
  ·
    refine T_seq fun K4 hK4 => ?_
    refine T_region ?_
    refine L_y (y_assign rfl) rfl ?_
    refine L_nil ?_
    refine hK4 _ _ ?_
    refine T_ret ?_
    repeat (first | with_reducible refine up_then ?_ | with_reducible refine up_in ?_)
    refine ret1 rfl rfl ?_
    exact ⟨_, rfl, S1.like0, by unfold chkM; first | rw [if_pos (by omega)] | rw [if_neg (by omega), if_pos (by omega)] | rw [if_neg (by omega), if_neg (by omega), if_pos hnm] | rw [if_neg (by omega), if_neg (by omega), if_neg hnm, if_pos htm] | rw [if_neg (by omega), if_neg (by omega), if_neg hnm, if_neg htm]⟩
  ·
    refine T_skip ?_
    refine hK2 _ _ ?_
    refine T_seq fun K5 hK5 => ?_
    refine T_seq fun K6 hK6 => ?_
    refine T_region ?_
    refine L_y (y_fieldA 32 Tryz.underlying87 rfl sz3 rfl rfl rfl) rfl ?_
    refine L_y (y_ldc Tryz.underlying3 rfl rfl (((S1.blk 0 rfl).cell _).trans (mk32 x))) rfl ?_
    refine L_y (y_lss rfl rfl) rfl ?_
    refine L_y (y_move rfl) rfl ?_
    refine L_split 10 rfl (fun h10 => ?_) (fun h10 => ?_)
    ·
      refine L_gno rfl rfl rfl ?_
      refine L_gno rfl rfl rfl ?_
      refine L_gno rfl rfl rfl ?_
      refine L_y ((by first | exact y_pickT rfl rfl | exact y_pickF rfl rfl)) rfl ?_
      refine L_nil ?_
      refine hK6 _ _ ?_
      refine T_true rfl ?_
      refine T_seq fun K7 hK7 => ?_
      refine T_region ?_
      refine L_y (y_assign rfl) rfl ?_
      refine L_nil ?_
      refine hK7 _ _ ?_
      refine T_ret ?_
      repeat (first | with_reducible refine up_then ?_ | with_reducible refine up_in ?_)
      refine ret1 rfl rfl ?_
      exact ⟨_, rfl, S1.like0, by unfold chkM; first | rw [if_pos (by omega)] | rw [if_neg (by omega), if_pos (by omega)] | rw [if_neg (by omega), if_neg (by omega), if_pos hnm] | rw [if_neg (by omega), if_neg (by omega), if_neg hnm, if_pos htm] | rw [if_neg (by omega), if_neg (by omega), if_neg hnm, if_neg htm]⟩
    ·
      refine L_gyes rfl rfl ?_
      refine L_y (y_fieldA 32 Tryz.underlying87 rfl sz3 rfl rfl rfl) rfl ?_
      refine L_gyes rfl rfl ?_
      refine L_y (y_ldc Tryz.underlying3 rfl rfl (((S1.blk 0 rfl).cell _).trans (mk32 x))) rfl ?_
      refine L_gyes rfl rfl ?_
      refine L_y (y_gtr rfl rfl) rfl ?_
      refine L_y ((by first | exact y_pickT rfl rfl | exact y_pickF rfl rfl)) rfl ?_
      refine L_nil ?_
      refine hK6 _ _ ?_
      refine T_cond rfl (fun h14 => ?_) (fun h14 => ?_)
      ·
        refine T_seq fun K8 hK8 => ?_
        refine T_region ?_
        refine L_y (y_assign rfl) rfl ?_
        refine L_nil ?_
        refine hK8 _ _ ?_
        refine T_ret ?_
        repeat (first | with_reducible refine up_then ?_ | with_reducible refine up_in ?_)
        refine ret1 rfl rfl ?_
        exact ⟨_, rfl, S1.like0, by unfold chkM; first | rw [if_pos (by omega)] | rw [if_neg (by omega), if_pos (by omega)] | rw [if_neg (by omega), if_neg (by omega), if_pos hnm] | rw [if_neg (by omega), if_neg (by omega), if_neg hnm, if_pos htm] | rw [if_neg (by omega), if_neg (by omega), if_neg hnm, if_neg htm]⟩
      ·
        refine T_skip ?_
        refine hK5 _ _ ?_
        refine T_seq fun K9 hK9 => ?_
        refine T_seq fun K10 hK10 => ?_
        refine T_region ?_
        refine L_y (y_fieldA 33 Tryz.underlying87 rfl sz9 rfl rfl rfl) rfl ?_
        refine L_y (y_ldc Tryz.underlying9 rfl rfl (((S1.blk 0 rfl).cell _).trans (mk33 x))) rfl ?_
        refine L_o (o_call Tryz.func76 rfl rfl (Tre.rname x.nm w1) rfl rfl ?_)
        rintro e3 w3 ⟨v3, rfl, l3, rfl⟩
        refine ⟨_, rfl, ?_⟩
        have S3 := S1.like l3
        refine L_y ((by first | exact y_notD rfl | exact y_not rfl)) rfl ?_
        refine L_nil ?_
        refine hK10 _ _ ?_
        refine T_condB rfl (fun h18 => ?_) (fun h18 => ?_)
        ·
          have hnm : nmOk x.nm = false := by simpa using h18
          refine T_seq fun K11 hK11 => ?_
          refine T_region ?_
          refine L_y (y_assign rfl) rfl ?_
          refine L_nil ?_
          refine hK11 _ _ ?_
          refine T_ret ?_
          repeat (first | with_reducible refine up_then ?_ | with_reducible refine up_in ?_)
          refine ret1 rfl rfl ?_
          exact ⟨_, rfl, S3.like0, by unfold chkM; first | rw [if_pos (by omega)] | rw [if_neg (by omega), if_pos (by omega)] | rw [if_neg (by omega), if_neg (by omega), if_pos hnm] | rw [if_neg (by omega), if_neg (by omega), if_neg hnm, if_pos htm] | rw [if_neg (by omega), if_neg (by omega), if_neg hnm, if_neg htm]⟩
        ·
          have hnm : ¬ nmOk x.nm = false := by simpa using h18
          refine T_skip ?_
          refine hK9 _ _ ?_
          refine T_seq fun K12 hK12 => ?_
          refine T_seq fun K13 hK13 => ?_
          refine T_region ?_
          refine L_y (y_fieldA 34 Tryz.underlying87 rfl sz3 rfl rfl rfl) rfl ?_
          refine L_y (y_ldc Tryz.underlying3 rfl rfl (((S3.blk 0 rfl).cell _).trans (mk34 x))) rfl ?_
          refine L_y (y_lss rfl rfl) rfl ?_
          refine L_y (y_move rfl) rfl ?_
          refine L_split 22 rfl (fun h22 => ?_) (fun h22 => ?_)
          ·
            refine L_gno rfl rfl rfl ?_
            refine L_gno rfl rfl rfl ?_
            refine L_gno rfl rfl rfl ?_
            refine L_y ((by first | exact y_pickT rfl rfl | exact y_pickF rfl rfl)) rfl ?_
            refine L_nil ?_
            refine hK13 _ _ ?_
            refine T_true rfl ?_
            refine T_seq fun K14 hK14 => ?_
            have htm : x.tm < 0 ∨ 1099511627776 < x.tm := by omega
            refine T_region ?_
            refine L_y (y_assign rfl) rfl ?_
            refine L_nil ?_
            refine hK14 _ _ ?_
            refine T_ret ?_
            repeat (first | with_reducible refine up_then ?_ | with_reducible refine up_in ?_)
            refine ret1 rfl rfl ?_
            exact ⟨_, rfl, S3.like0, by unfold chkM; first | rw [if_pos (by omega)] | rw [if_neg (by omega), if_pos (by omega)] | rw [if_neg (by omega), if_neg (by omega), if_pos hnm] | rw [if_neg (by omega), if_neg (by omega), if_neg hnm, if_pos htm] | rw [if_neg (by omega), if_neg (by omega), if_neg hnm, if_neg htm]⟩
          ·
            refine L_gyes rfl rfl ?_
            refine L_y (y_fieldA 34 Tryz.underlying87 rfl sz3 rfl rfl rfl) rfl ?_
            refine L_gyes rfl rfl ?_
            refine L_y (y_ldc Tryz.underlying3 rfl rfl (((S3.blk 0 rfl).cell _).trans (mk34 x))) rfl ?_
            refine L_gyes rfl rfl ?_
            refine L_y (y_gtr rfl rfl) rfl ?_
            refine L_y ((by first | exact y_pickT rfl rfl | exact y_pickF rfl rfl)) rfl ?_
            refine L_nil ?_
            refine hK13 _ _ ?_
            refine T_cond rfl (fun h26 => ?_) (fun h26 => ?_)
            ·
              refine T_seq fun K15 hK15 => ?_
              have htm : x.tm < 0 ∨ 1099511627776 < x.tm := by omega
              refine T_region ?_
              refine L_y (y_assign rfl) rfl ?_
              refine L_nil ?_
              refine hK15 _ _ ?_
              refine T_ret ?_
              repeat (first | with_reducible refine up_then ?_ | with_reducible refine up_in ?_)
              refine ret1 rfl rfl ?_
              exact ⟨_, rfl, S3.like0, by unfold chkM; first | rw [if_pos (by omega)] | rw [if_neg (by omega), if_pos (by omega)] | rw [if_neg (by omega), if_neg (by omega), if_pos hnm] | rw [if_neg (by omega), if_neg (by omega), if_neg hnm, if_pos htm] | rw [if_neg (by omega), if_neg (by omega), if_neg hnm, if_neg htm]⟩
            ·
              refine T_skip ?_
              refine hK12 _ _ ?_
              refine T_seq fun K16 hK16 => ?_
              have htm : ¬ (x.tm < 0 ∨ 1099511627776 < x.tm) := by omega
              refine T_region ?_
              refine L_y (y_assign rfl) rfl ?_
              refine L_nil ?_
              refine hK16 _ _ ?_
              refine T_ret ?_
              repeat (first | with_reducible refine up_then ?_ | with_reducible refine up_in ?_)
              refine ret1 rfl rfl ?_
              exact ⟨_, rfl, S3.like0, by unfold chkM; first | rw [if_pos (by omega)] | rw [if_neg (by omega), if_pos (by omega)] | rw [if_neg (by omega), if_neg (by omega), if_pos hnm] | rw [if_neg (by omega), if_neg (by omega), if_neg hnm, if_pos htm] | rw [if_neg (by omega), if_neg (by omega), if_neg hnm, if_neg htm]⟩


end Go.Proofs.YtgaklngnfecdaaaGreat.Rev


/-
  Reading a tag.
-/
namespace Go.Proofs.YtgaklngnfecdaaaGreat.Rev
open Go.RowKit Zk Zx
open Oid (idf hexL idf_len readR)
open Tre (nmOk)
set_option linter.unusedVariables false
set_option linter.unusedSimpArgs false

/-- What the lines of a tag say. -/
structure MkL where
  ob : Oid.Id
  kd : Nat
  nm : List UInt8
  tm : Nat
  tx : List UInt8
def mkOf (y : MkL) : Mk := ⟨y.ob, (y.kd : Int), ⟨y.nm.toArray⟩, (y.tm : Int), ⟨y.tx.toArray⟩⟩
def zML : MkL := ⟨⟨List.replicate 32 0, rfl⟩, 0, [], 0, []⟩
theorem zML_mk : mkOf zML = zMk := by kernel_rfl
def markR (s : List UInt8) : Option MkL :=
  (idR wObject s).bind fun o => (numbR wKind o.2).bind fun k => if 9 < k.1 then none else (lineR wName k.2).bind fun a => (numbR wTime a.2).bind fun n => (textR n.2).map fun x => ⟨o.1, k.1, a.1, n.1, x⟩
section
variable {s s1 s2 s3 s4 a x : List UInt8} {o : Oid.Id} {k n : Nat}
theorem m1 (h : idR wObject s = none) : markR s = none := by unfold markR; rw [h]; rfl
theorem m2 (h : idR wObject s = some (o, s1)) (hk : numbR wKind s1 = none) : markR s = none := by unfold markR; rw [h]; simp [hk]
theorem m3 (h : idR wObject s = some (o, s1)) (hk : numbR wKind s1 = some (k, s2)) (h9 : 9 < k) : markR s = none := by unfold markR; rw [h]; simp [hk, h9]
theorem m4 (h : idR wObject s = some (o, s1)) (hk : numbR wKind s1 = some (k, s2)) (ha : lineR wName s2 = none) : markR s = none := by
  unfold markR; rw [h]; by_cases h9 : 9 < k <;> simp [hk, h9, ha]
theorem m5 (h : idR wObject s = some (o, s1)) (hk : numbR wKind s1 = some (k, s2)) (ha : lineR wName s2 = some (a, s3)) (hn : numbR wTime s3 = none) : markR s = none := by
  unfold markR; rw [h]; by_cases h9 : 9 < k <;> simp [hk, h9, ha, hn]
theorem m6 (h : idR wObject s = some (o, s1)) (hk : numbR wKind s1 = some (k, s2)) (ha : lineR wName s2 = some (a, s3)) (hn : numbR wTime s3 = some (n, s4)) (hx : textR s4 = none) : markR s = none := by
  unfold markR; rw [h]; by_cases h9 : 9 < k <;> simp [hk, h9, ha, hn, hx]
theorem m7 (h : idR wObject s = some (o, s1)) (hk : numbR wKind s1 = some (k, s2)) (h9 : ¬ 9 < k) (ha : lineR wName s2 = some (a, s3)) (hn : numbR wTime s3 = some (n, s4)) (hx : textR s4 = some x) : markR s = some ⟨o, k, a, n, x⟩ := by
  unfold markR; rw [h]; simp [hk, h9, ha, hn, hx]
end
theorem stm (x : Mk) (t : Oid.Id) : ((mkf x).toArray.toList.take 0 ++ (idf t).toArray.toList ++ (mkf x).toArray.toList.drop (0 + (idf t).toArray.size)).toArray = (mkf { x with ob := t }).toArray := by
  simp only [List.take_zero, List.nil_append, List.size_toArray, idf_len, Nat.zero_add]
  congr 1
  show idf t ++ (mkf x).drop 32 = _
  unfold mkf
  rw [List.drop_append_of_le_length (by rw [idf_len]; omega), List.drop_of_length_le (by rw [idf_len]; omega), List.nil_append]
theorem stm_at (x : Mk) (k : Nat) (v : Value) (hk : k < 4) : (mkf x).toArray.setIfInBounds (32 + k) v = (idf x.ob ++ [Value.int .i64 x.kd, .string x.nm, .int .i64 x.tm, .string x.tx].set k v).toArray := by
  rw [List.setIfInBounds_toArray]
  congr 1
  unfold mkf
  rw [List.set_append_right _ _ (by rw [idf_len]; omega), idf_len, show 32 + k - 32 = k by omega]
theorem stm32 (x : Mk) (v : Int) : (mkf x).toArray.setIfInBounds 32 (.int .i64 v) = (mkf { x with kd := v }).toArray := stm_at x 0 _ (by omega)
theorem stm33 (x : Mk) (v : ByteArray) : (mkf x).toArray.setIfInBounds 33 (.string v) = (mkf { x with nm := v }).toArray := stm_at x 1 _ (by omega)
theorem stm34 (x : Mk) (v : Int) : (mkf x).toArray.setIfInBounds 34 (.int .i64 v) = (mkf { x with tm := v }).toArray := stm_at x 2 _ (by omega)
theorem stm35 (x : Mk) (v : ByteArray) : (mkf x).toArray.setIfInBounds 35 (.string v) = (mkf { x with tx := v }).toArray := stm_at x 3 _ (by omega)
/-- What GetMark answers. -/
def mcode (s : List UInt8) : Int := match markR s with
  | none => 12
  | some y => chkM (mkOf y)
def mval (s : List UInt8) : MkL := match markR s with
  | none => zML
  | some y => if chkM (mkOf y) = 0 then y else zML
theorem mo_some {s : List UInt8} {y : MkL} (h : markR s = some y) : mcode s = chkM (mkOf y) ∧ mval s = if chkM (mkOf y) = 0 then y else zML := by unfold mcode mval; rw [h]; exact ⟨rfl, rfl⟩
theorem mo_none {s : List UInt8} (h : markR s = none) : mcode s = 12 ∧ mval s = zML := by unfold mcode mval; rw [h]; exact ⟨rfl, rfl⟩
def kval (s : List UInt8) : MkL := (markR s).getD zML
def kcode (s : List UInt8) : Int := if (markR s).isSome then 0 else 12
theorem kcode_0 {s : List UInt8} (h : kcode s = 0) : markR s = some (kval s) := by
  unfold kcode at h
  unfold kval
  cases e : markR s with
  | none => rw [e] at h; cases h
  | some y => rfl
theorem kcode_n {s : List UInt8} (h : ¬ kcode s = 0) : markR s = none ∧ kcode s = 12 := by
  unfold kcode at h ⊢
  cases e : markR s with
  | none => exact ⟨rfl, rfl⟩
  | some y => rw [e] at h; exact absurd rfl h
theorem k_none {s : List UInt8} (h : markR s = none) : Value.tuple #[.agg (mkf zMk).toArray, .int .i64 12] = .tuple #[.agg (mkf (mkOf (kval s))).toArray, .int .i64 (kcode s)] := by
  rw [show kval s = zML by rw [kval, h]; rfl, show kcode s = 12 by rw [kcode, h]; rfl, zML_mk]
theorem k_some {s : List UInt8} {y : MkL} (h : markR s = some y) : Value.tuple #[.agg (mkf (mkOf y)).toArray, .int .i64 0] = .tuple #[.agg (mkf (mkOf (kval s))).toArray, .int .i64 (kcode s)] := by
  rw [show kval s = y by rw [kval, h]; rfl, show kcode s = 0 by rw [kcode, h]; rfl]


set_option maxRecDepth 100000 in
theorem mark (g : Nat) (s : List UInt8) (w0 : World) (hw : (rdR g s).holds w0) (hl : s.length ≤ 100000) :
    Calls Tryz.prog 110 #[.pointer (some ⟨g, 0, none⟩)] w0 fun e w' => ∃ u, e = .returned u ∧ ∃ s', Turned w0 w' (rdR g s) (rdR g s') ∧ u = .tuple #[.agg (mkf (mkOf (kval s))).toArray, .int .i64 (kcode s)] := by
  refine enterD1 (env := [(0, .pointer (some ⟨g, 0, none⟩))]) [.pointer (some ⟨g, 0, none⟩)] Tryz.func110 rfl Tryz.ntmps110 rfl rfl ?_
  have S0 := St.borrow1 (rdR g s) hw (rd_lt hw)
  refine T_seq fun K1 hK1 => ?_
  refine T_region ?_
  refine L_o (o_alloc zz87 S0 rfl fun b1 w1 hb1 S1 => ?_)
  refine L_o (o_alloc zz24 S1 rfl fun b2 w2 hb2 S2 => ?_)
  have S3 : Zx.St w0 (rdR g s).dom [rdR g s, blk b1 87 (mkf zMk).toArray, blk b2 24 #[Value.int .i64 0]] w2 := S2.cast (by kernel_rfl)
  have hne : b1 ≠ b2 := fun e => St.apart_ S3 1 2 rfl rfl rfl b1 rfl e
  refine L_nil ?_
  refine hK1 _ _ ?_
  refine T_seq fun K2 hK2 => ?_
  refine T_region ?_
  refine L_y (y_makeFunc rfl rfl) rfl ?_
  refine L_deferV rfl ?_
  refine L_nil ?_
  refine hK2 _ _ ?_
  refine T_seq fun K3 hK3 => ?_
  refine T_region ?_
  refine L_y (y_move rfl) rfl ?_
  refine L_o (o_callP Tryz.func145 rfl rfl (idr g s wObject w2 (S3.get 0 rfl) (by decide) (by omega)) rfl rfl ?_)
  rintro e4 w4 (⟨rfl, s9, T4, hno⟩ | ⟨v4, rfl, o, s1, hid, T4, rfl⟩)
  · exact .inr ⟨_, rfl, mark_pan rfl rfl rfl ((S3.turn 0 rfl T4).blk 1 rfl) (mkf_sz _) ((S3.turn 0 rfl T4).blk 2 rfl) hne (fun w' T' => ⟨_, rfl, _, (st_pan ((S3.turn 0 rfl T4).sel [0, 1, 2] (by decide)) T').turned1 0 rfl, k_none (m1 hno)⟩)⟩
  refine .inl ⟨_, rfl, ?_⟩
  have S4 := S3.turn 0 rfl T4
  have hl1 := idR_len hid
  refine L_y (y_fieldA 0 Tryz.underlying87 rfl sz41 rfl rfl rfl) rfl ?_
  refine L_o (o_stR S4 1 rfl rfl rfl (by rw [List.size_toArray, idf_len]; exact sz41) (by rw [List.size_toArray, idf_len, mkf_sz]; omega) (fun u hu => bL_one _ u (by rw [List.toList_toArray] at hu; exact hu)) fun w5 S5 => ?_)
  have S6 := S5.blkc 1 rfl (show _ = (mkf (⟨o, 0, ⟨#[]⟩, 0, ⟨#[]⟩⟩ : Mk)).toArray from stm zMk o)
  have S7 : Zx.St w0 (rdR g s).dom [rdR g s1, blk b1 87 (mkf (⟨o, 0, ⟨#[]⟩, 0, ⟨#[]⟩⟩ : Mk)).toArray, blk b2 24 #[Value.int .i64 0]] w5 := S6.cast (by kernel_rfl)
  refine L_nil ?_
  refine hK3 _ _ ?_
  refine T_seq fun K4 hK4 => ?_
  refine T_region ?_
  refine L_y (y_move rfl) rfl ?_
  refine L_o (o_callP Tryz.func148 rfl rfl (numb g s1 wKind w5 (S7.get 0 rfl) (by decide) (by omega)) rfl rfl ?_)
  rintro e8 w8 (⟨rfl, s9, T8, hno⟩ | ⟨v8, rfl, kd, s2, hkd, T8, rfl⟩)
  · exact .inr ⟨_, rfl, mark_pan rfl rfl rfl ((S7.turn 0 rfl T8).blk 1 rfl) (mkf_sz _) ((S7.turn 0 rfl T8).blk 2 rfl) hne (fun w' T' => ⟨_, rfl, _, (st_pan ((S7.turn 0 rfl T8).sel [0, 1, 2] (by decide)) T').turned1 0 rfl, k_none (m2 hid hno)⟩)⟩
  refine .inl ⟨_, rfl, ?_⟩
  have S8 := S7.turn 0 rfl T8
  have hl2 := (numbR_len hkd).1
  refine L_y (y_fieldA 32 Tryz.underlying87 rfl sz3 rfl rfl rfl) rfl ?_
  refine L_o (o_st1 S8 1 rfl rfl rfl rfl sz3 (by rw [mkf_sz]; omega) fun w9 S9 => ?_)
  have S10 := S9.blkc 1 rfl (show _ = (mkf (⟨o, (kd : Int), ⟨#[]⟩, 0, ⟨#[]⟩⟩ : Mk)).toArray from stm32 (⟨o, 0, ⟨#[]⟩, 0, ⟨#[]⟩⟩ : Mk) _)
  have S11 : Zx.St w0 (rdR g s).dom [rdR g s2, blk b1 87 (mkf (⟨o, (kd : Int), ⟨#[]⟩, 0, ⟨#[]⟩⟩ : Mk)).toArray, blk b2 24 #[Value.int .i64 0]] w9 := S10.cast (by kernel_rfl)
  refine L_nil ?_
  refine hK4 _ _ ?_
  refine T_seq fun K5 hK5 => ?_
  refine T_seq fun K6 hK6 => ?_
  refine T_region ?_
  refine L_y (y_fieldA 32 Tryz.underlying87 rfl sz3 rfl rfl rfl) rfl ?_
  refine L_y (y_ldc Tryz.underlying3 rfl rfl (((S11.blk 1 rfl).cell _).trans (mk32 _))) rfl ?_
  refine L_y (y_gtr rfl rfl) rfl ?_
  refine L_nil ?_
  refine hK6 _ _ ?_
  refine T_cond rfl (fun h13 => ?_) (fun h13 => ?_)
  ·
    have h9k : (9 : Int) < (kd : Int) := h13
    refine T_region ?_
    refine L_y (y_build rfl (show _ = some #[Value.int .i64 12] by kernel_rfl)) rfl ?_
    refine L_y (y_mkI (by kernel_rfl) rfl) rfl ?_
    refine L_panic rfl ?_
    exact mark_pan rfl rfl rfl (S11.blk 1 rfl) (mkf_sz _) (S11.blk 2 rfl) hne (fun w' T' => ⟨_, rfl, _, (st_pan (S11.sel [0, 1, 2] (by decide)) T').turned1 0 rfl, k_none (m3 hid hkd (by omega))⟩)
  ·
    have h9k : ¬ (9 : Int) < (kd : Int) := h13
    refine T_skip ?_
    refine hK5 _ _ ?_
    refine T_seq fun K7 hK7 => ?_
    refine T_region ?_
    refine L_y (y_move rfl) rfl ?_
    refine L_o (o_callP Tryz.func147 rfl rfl (take g s2 wName w9 (S11.get 0 rfl) (by decide) (by omega)) rfl rfl ?_)
    rintro e12 w12 (⟨rfl, T12, hno⟩ | ⟨v12, rfl, nm, s3, hnm, T12, rfl⟩)
    · exact .inr ⟨_, rfl, mark_pan rfl rfl rfl ((S11.turn 0 rfl T12).blk 1 rfl) (mkf_sz _) ((S11.turn 0 rfl T12).blk 2 rfl) hne (fun w' T' => ⟨_, rfl, _, (st_pan ((S11.turn 0 rfl T12).sel [0, 1, 2] (by decide)) T').turned1 0 rfl, k_none (m4 hid hkd hno)⟩)⟩
    refine .inl ⟨_, rfl, ?_⟩
    have S12 := S11.turn 0 rfl T12
    have hl3 := lineR_len2 hnm
    refine L_y (y_fieldA 33 Tryz.underlying87 rfl sz9 rfl rfl rfl) rfl ?_
    refine L_o (o_st1 S12 1 rfl rfl rfl rfl sz9 (by rw [mkf_sz]; omega) fun w13 S13 => ?_)
    have S14 := S13.blkc 1 rfl (show _ = (mkf (⟨o, (kd : Int), ⟨nm.toArray⟩, 0, ⟨#[]⟩⟩ : Mk)).toArray from stm33 (⟨o, (kd : Int), ⟨#[]⟩, 0, ⟨#[]⟩⟩ : Mk) _)
    have S15 : Zx.St w0 (rdR g s).dom [rdR g s3, blk b1 87 (mkf (⟨o, (kd : Int), ⟨nm.toArray⟩, 0, ⟨#[]⟩⟩ : Mk)).toArray, blk b2 24 #[Value.int .i64 0]] w13 := S14.cast (by kernel_rfl)
    refine L_nil ?_
    refine hK7 _ _ ?_
    refine T_seq fun K8 hK8 => ?_
    refine T_region ?_
    refine L_y (y_move rfl) rfl ?_
    refine L_o (o_callP Tryz.func148 rfl rfl (numb g s3 wTime w13 (S15.get 0 rfl) (by decide) (by omega)) rfl rfl ?_)
    rintro e16 w16 (⟨rfl, s9, T16, hno⟩ | ⟨v16, rfl, tm, s4, htm, T16, rfl⟩)
    · exact .inr ⟨_, rfl, mark_pan rfl rfl rfl ((S15.turn 0 rfl T16).blk 1 rfl) (mkf_sz _) ((S15.turn 0 rfl T16).blk 2 rfl) hne (fun w' T' => ⟨_, rfl, _, (st_pan ((S15.turn 0 rfl T16).sel [0, 1, 2] (by decide)) T').turned1 0 rfl, k_none (m5 hid hkd hnm hno)⟩)⟩
    refine .inl ⟨_, rfl, ?_⟩
    have S16 := S15.turn 0 rfl T16
    have hl4 := (numbR_len htm).1
    refine L_y (y_fieldA 34 Tryz.underlying87 rfl sz3 rfl rfl rfl) rfl ?_
    refine L_o (o_st1 S16 1 rfl rfl rfl rfl sz3 (by rw [mkf_sz]; omega) fun w17 S17 => ?_)
    have S18 := S17.blkc 1 rfl (show _ = (mkf (⟨o, (kd : Int), ⟨nm.toArray⟩, (tm : Int), ⟨#[]⟩⟩ : Mk)).toArray from stm34 (⟨o, (kd : Int), ⟨nm.toArray⟩, 0, ⟨#[]⟩⟩ : Mk) _)
    have S19 : Zx.St w0 (rdR g s).dom [rdR g s4, blk b1 87 (mkf (⟨o, (kd : Int), ⟨nm.toArray⟩, (tm : Int), ⟨#[]⟩⟩ : Mk)).toArray, blk b2 24 #[Value.int .i64 0]] w17 := S18.cast (by kernel_rfl)
    refine L_nil ?_
    refine hK8 _ _ ?_
    refine T_seq fun K9 hK9 => ?_
    refine T_region ?_
    refine L_y (y_move rfl) rfl ?_
    refine L_o (o_callP Tryz.func149 rfl rfl (text_ g s4 w17 (S19.get 0 rfl)) rfl rfl ?_)
    rintro e20 w20 (⟨rfl, T20, hno⟩ | ⟨v20, rfl, tx, htx, T20, rfl⟩)
    · exact .inr ⟨_, rfl, mark_pan rfl rfl rfl ((S19.turn 0 rfl T20).blk 1 rfl) (mkf_sz _) ((S19.turn 0 rfl T20).blk 2 rfl) hne (fun w' T' => ⟨_, rfl, _, (st_pan ((S19.turn 0 rfl T20).sel [0, 1, 2] (by decide)) T').turned1 0 rfl, k_none (m6 hid hkd hnm htm hno)⟩)⟩
    refine .inl ⟨_, rfl, ?_⟩
    have S20 := S19.turn 0 rfl T20
    refine L_y (y_fieldA 35 Tryz.underlying87 rfl sz9 rfl rfl rfl) rfl ?_
    refine L_o (o_st1 S20 1 rfl rfl rfl rfl sz9 (by rw [mkf_sz]; omega) fun w21 S21 => ?_)
    have S22 := S21.blkc 1 rfl (show _ = (mkf (⟨o, (kd : Int), ⟨nm.toArray⟩, (tm : Int), ⟨tx.toArray⟩⟩ : Mk)).toArray from stm35 (⟨o, (kd : Int), ⟨nm.toArray⟩, (tm : Int), ⟨#[]⟩⟩ : Mk) _)
    have S23 : Zx.St w0 (rdR g s).dom [rdR g s4, blk b1 87 (mkf (⟨o, (kd : Int), ⟨nm.toArray⟩, (tm : Int), ⟨tx.toArray⟩⟩ : Mk)).toArray, blk b2 24 #[Value.int .i64 0]] w21 := S22.cast (by kernel_rfl)
    refine L_nil ?_
    refine hK9 _ _ ?_
    refine T_seq fun K10 hK10 => ?_
    refine T_region ?_
    refine L_y (y_ldW Tryz.underlying87 rfl sz87 rfl (S23.blk 1 rfl) (mk_whole _)) rfl ?_
    refine L_o (o_stW S23 1 rfl rfl rfl (by rw [mkf_sz]; exact sz87) (by rw [mkf_sz]) (fun u hu => mkf_one _ u (by rw [List.toList_toArray] at hu; exact hu)) fun w24 S24 => ?_)
    refine L_o (o_st1 S24 2 rfl rfl rfl rfl sz24 (by simp; done) fun w25 S25 => ?_)
    refine L_nil ?_
    refine hK10 _ _ ?_
    refine T_ret ?_
    repeat (first | with_reducible refine up_then ?_ | with_reducible refine up_in ?_)
    refine mark_ret rfl rfl rfl (S25.blk 1 rfl) (mkf_sz _) (S25.blk 2 rfl) ?_
    intro w' l'
    exact ⟨_, rfl, _, (S25.like l').turned1 0 rfl, k_some (y := ⟨o, kd, nm, tm, tx⟩) (m7 hid hkd (by omega) hnm htm htx)⟩
end Go.Proofs.YtgaklngnfecdaaaGreat.Rev


/-
  '==' on structs of any plain fields. General; nothing here names a program.
-/
namespace Go.Proofs.YtgaklngnfecdaaaGreat.Zx
open Go.RowKit Zk
set_option linter.unusedVariables false
set_option linter.unusedSimpArgs false
section
variable {P : Program}
/-- What '==' says of one field. -/
def FE (P : Program) (d : Nat) (xs ys : Array Value) (f : Field) (b : Bool) : Prop :=
  f.name ≠ "_" ∧ ∃ vx vy, (∀ w, (part f.type xs f.offset).run P w = .ok vx w) ∧ (∀ w, (part f.type ys f.offset).run P w = .ok vy w) ∧ (∀ w, (Op.equalIn d f.type vx vy).run P w = .ok b w)
inductive EqFs (P : Program) (d : Nat) (xs ys : Array Value) : List Field → Bool → Prop
  | nil : EqFs P d xs ys [] true
  | cons {f : Field} {fs : List Field} {b r : Bool} : FE P d xs ys f b → EqFs P d xs ys fs r → EqFs P d xs ys (f :: fs) (b && r)
theorem EqFs.run {d : Nat} {xs ys : Array Value} : ∀ {fs : List Field} {r : Bool}, EqFs P d xs ys fs r → ∀ w, (Op.eqFields d xs ys fs).run P w = .ok r w
  | _, _, .nil, w => rfl
  | _, _, .cons (f := f) (fs := fs) (b := b) (r := r) ⟨hn, vx, vy, h1, h2, h3⟩ h, w => by
    rw [Op.eqFields, if_pos hn, Sem.run_bind, h1 w, Result.andThen_ok, Sem.run_bind, h2 w, Result.andThen_ok, Sem.run_bind, h3 w, Result.andThen_ok]
    cases b with
    | true =>
      simp only [Bool.not_true, Bool.false_eq_true, if_false]
      rw [h.run w]
      rfl
    | false =>
      simp only [Bool.not_false, if_true, Sem.run_pure]
      rfl
variable {S : World → Prop} {env : Env} {dst : Option Tmp} {ty : TypeId} {pos : String} {after : Array Edge} {g : Option (Nat × Bool)}
end
end Go.Proofs.YtgaklngnfecdaaaGreat.Zx


/-
  GetMark.
-/
namespace Go.Proofs.YtgaklngnfecdaaaGreat.Rev
open Go.RowKit Zk Zx
open Oid (idf hexL idf_len readR)
open Tre (nmOk)
set_option linter.unusedVariables false
set_option linter.unusedSimpArgs false

theorem get_outM {w0 w : World} {s : List UInt8} (l : Like w0 w) (h : markR s = none) : ∃ u, Ending.returned (.tuple #[.agg (mkf zMk).toArray, .int .i64 12]) = .returned u ∧ Like w0 w ∧ u = .tuple #[.agg (mkf (mkOf (mval s))).toArray, .int .i64 (mcode s)] := by
  have hgo := mo_none h
  rw [hgo.1, hgo.2, zML_mk]
  exact ⟨_, rfl, l, rfl⟩


end Go.Proofs.YtgaklngnfecdaaaGreat.Rev


/-
  The laws of tags.
-/
namespace Go.Proofs.YtgaklngnfecdaaaGreat.Rev
open Go.RowKit Zk Zx
open Oid (idf hexL idf_len readR)
open Tre (nmOk)
set_option linter.unusedVariables false
set_option linter.unusedSimpArgs false

end Go.Proofs.YtgaklngnfecdaaaGreat.Rev


/-
  Tags as a law's arguments.
-/
namespace Go.Proofs.YtgaklngnfecdaaaGreat.Rev
open Go.ChangeShapes Go.WideShapes Go.ChangeAt Go.RowKit Go.Deep Zk Zx
open Oid (idf idf_len)
set_option linter.unusedVariables false
set_option linter.unusedSimpArgs false
set_option maxRecDepth 100000
section
variable {H : Type} {enc : TypeId × Value → H} {w : World} {base : Nat} {spare : Nat → Bool} {held : Bool}
end
end Go.Proofs.YtgaklngnfecdaaaGreat.Rev


/-
  Get and GetMark at longer bytes.
-/
namespace Go.Proofs.YtgaklngnfecdaaaGreat.Rev
open Go.RowKit Zk Zx
open Oid (idf hexL idf_len readR)
open Tre (nmOk)
set_option linter.unusedVariables false
set_option linter.unusedSimpArgs false

set_option maxRecDepth 100000 in
theorem getB (B : Option Addr) (m d : Nat) (s : List UInt8) (w0 : World) (hb : Rs w0 1 B m d (bL s)) (hl : s.length ≤ 90000) :
    Calls Tryz.prog 74 #[.slice B m d] w0 fun e w' => ∃ u, e = .returned u ∧ Like w0 w' ∧ ∃ A c, Fr w0 w' 32 A (gval s).ps.length c ((gval s).ps.flatMap idf) ∧ u = .tuple #[.agg (cmf (cmOf (gval s) A (gval s).ps.length c)).toArray, .int .i64 (gcode s)] := by
  refine enter1 (env := [(0, .slice B m d)]) [.slice B m d] Tryz.func74 rfl Tryz.ntmps74 rfl rfl ?_
  have S0 := St.start w0 noM
  refine T_seq fun K1 hK1 => ?_
  refine T_region ?_
  refine L_o (o_alloc zz83 S0 rfl fun b1 w1 hb1 S1 => ?_)
  refine L_y (y_assign rfl) rfl ?_
  refine L_nil ?_
  refine hK1 _ _ ?_
  refine T_seq fun K2 hK2 => ?_
  refine T_region ?_
  refine L_y (y_move rfl) rfl ?_
  refine L_y (y_bstr Tryz.underlying22 Tryz.underlying5 Tryz.underlying9 rfl (by first | exact S1.rd hb)) rfl ?_
  refine L_y (y_build rfl (show _ = some #[Value.string ⟨s.toArray⟩] by kernel_rfl)) rfl ?_
  refine L_o (o_box rfl S1 rfl fun b2 w2 hb2 S2 => ?_)
  have S3 : Zx.St w0 noM [blk b1 83 (cmf zCm).toArray, rdR b2 s] w2 := S2.cast (by kernel_rfl)
  refine L_y (y_assign rfl) rfl ?_
  refine L_nil ?_
  refine hK2 _ _ ?_
  refine T_seq fun K3 hK3 => ?_
  refine T_region ?_
  refine L_y (y_move rfl) rfl ?_
  refine L_o (o_call Tryz.func108 rfl rfl (readr' b2 s w2 (S3.get 1 rfl) (by omega)) rfl rfl ?_)
  rintro e4 w4 ⟨v4, rfl, s9, A, c, T4, hf4, rfl⟩
  refine ⟨_, rfl, ?_⟩
  have S4 := S3.turn 1 rfl T4
  have S5 := St.newF S3 1 rfl T4 (fun i hi => hi) hf4
  refine L_y (y_move rfl) rfl ?_
  refine L_y (y_extract rfl rfl) rfl ?_
  refine L_y (y_extract rfl rfl) rfl ?_
  refine L_o (o_alloc zz83 S5 rfl fun b6 w6 hb6 S6 => ?_)
  refine L_o (o_stW S6 3 rfl rfl rfl (by rw [cmf_sz]; exact sz83) (by first | (rw [cmf_sz]; done) | (rw [cmf_sz]; rfl)) (fun u hu => cmf_one _ u (by rw [List.toList_toArray] at hu; exact hu)) fun w7 S7 => ?_)
  refine L_y (y_assign rfl) rfl ?_
  refine L_nil ?_
  refine hK3 _ _ ?_
  refine T_seq fun K4 hK4 => ?_
  refine T_seq fun K5 hK5 => ?_
  refine T_region ?_
  refine L_y (y_move rfl) rfl ?_
  refine L_y (y_eql rfl rfl) rfl ?_
  refine L_nil ?_
  refine hK5 _ _ ?_
  refine T_cond rfl (fun h17 => ?_) (fun h17 => ?_)
  ·
    have hg := rcode_0 h17
    refine T_region ?_
    refine L_y (y_ldW Tryz.underlying83 rfl sz83 rfl (S7.blk 3 rfl) (cm_whole _)) rfl ?_
    refine L_o (o_call Tryz.func109 rfl rfl (check (cmOf (rval s) A _ c) w7 (S7.fix 2 rfl)) rfl rfl ?_)
    rintro e8 w8 ⟨v8, rfl, l8, rfl⟩
    refine ⟨_, rfl, ?_⟩
    have S8 := S7.like l8
    refine L_y (y_assign rfl) rfl ?_
    refine L_nil ?_
    refine hK4 _ _ ?_
    refine T_seq fun K6 hK6 => ?_
    refine T_seq fun K7 hK7 => ?_
    refine T_region ?_
    refine L_y (y_move rfl) rfl ?_
    refine L_y (y_neq rfl rfl) rfl ?_
    refine L_nil ?_
    refine hK7 _ _ ?_
    refine T_cond rfl (fun h21 => ?_) (fun h21 => ?_)
    ·
      refine T_seq fun K8 hK8 => ?_
      refine T_region ?_
      refine L_y (y_build rfl (show _ = some (cmf zCm).toArray by kernel_rfl)) rfl ?_
      refine L_y (y_move rfl) rfl ?_
      refine L_o (o_stW S8 0 rfl rfl rfl (by rw [cmf_sz]; exact sz83) (by first | (rw [cmf_sz]; done) | (rw [cmf_sz]; rfl)) (fun u hu => cmf_one _ u (by rw [List.toList_toArray] at hu; exact hu)) fun w9 S9 => ?_)
      refine L_y (y_assign rfl) rfl ?_
      refine L_nil ?_
      refine hK8 _ _ ?_
      refine T_ret ?_
      repeat (first | with_reducible refine up_then ?_ | with_reducible refine up_in ?_)
      refine retct rfl rfl rfl (S9.blk 0 rfl) Tryz.underlying83 rfl (by rw [cmf_sz]; exact sz83) ?_
      have hgo := go_some hg
      have hgc : chk (cmOf (rval s) A (rval s).ps.length c) = chk (cmO (rval s)) := rfl
      have hv : gval s = zL := by rw [hgo.2, if_neg (fun e => h21 (hgc.trans e))]
      rw [hv, hgo.1]
      refine ⟨_, rfl, S9.like0, none, 0, fr_nil _ _ _, ?_⟩
      exact congrArg (fun x => Value.tuple #[.agg (cmf x).toArray, _]) zL_cm.symm
    ·
      refine T_skip ?_
      refine hK6 _ _ ?_
      refine T_seq fun K9 hK9 => ?_
      refine T_region ?_
      refine L_y (y_ldW Tryz.underlying83 rfl sz83 rfl (S8.blk 3 rfl) (cm_whole _)) rfl ?_
      refine L_o (o_stW S8 0 rfl rfl rfl (by rw [cmf_sz]; exact sz83) (by first | (rw [cmf_sz]; done) | (rw [cmf_sz]; rfl)) (fun u hu => cmf_one _ u (by rw [List.toList_toArray] at hu; exact hu)) fun w10 S10 => ?_)
      refine L_y (y_assign rfl) rfl ?_
      refine L_nil ?_
      refine hK9 _ _ ?_
      refine T_ret ?_
      repeat (first | with_reducible refine up_then ?_ | with_reducible refine up_in ?_)
      refine retct rfl rfl rfl (S10.blk 0 rfl) Tryz.underlying83 rfl (by rw [cmf_sz]; exact sz83) ?_
      have hgo := go_some hg
      have hgc : chk (cmOf (rval s) A (rval s).ps.length c) = chk (cmO (rval s)) := rfl
      have h0 : chk (cmO (rval s)) = 0 := Classical.byContradiction fun e => h21 e
      have hv : gval s = rval s := by rw [hgo.2, if_pos h0]
      rw [hv, hgo.1, h0]
      exact ⟨_, rfl, S10.like0, A, c, S10.fr 2 rfl, rfl⟩
  ·
    have hg := rcode_n h17
    refine T_skip ?_
    refine hK4 _ _ ?_
    refine T_seq fun K10 hK10 => ?_
    refine T_seq fun K11 hK11 => ?_
    refine T_region ?_
    refine L_y (y_move rfl) rfl ?_
    refine L_y (y_neq rfl rfl) rfl ?_
    refine L_nil ?_
    refine hK11 _ _ ?_
    refine T_cond rfl (fun h21 => ?_) (fun h21 => ?_)
    ·
      refine T_seq fun K12 hK12 => ?_
      refine T_region ?_
      refine L_y (y_build rfl (show _ = some (cmf zCm).toArray by kernel_rfl)) rfl ?_
      refine L_y (y_move rfl) rfl ?_
      refine L_o (o_stW S7 0 rfl rfl rfl (by rw [cmf_sz]; exact sz83) (by first | (rw [cmf_sz]; done) | (rw [cmf_sz]; rfl)) (fun u hu => cmf_one _ u (by rw [List.toList_toArray] at hu; exact hu)) fun w11 S11 => ?_)
      refine L_y (y_assign rfl) rfl ?_
      refine L_nil ?_
      refine hK12 _ _ ?_
      refine T_ret ?_
      repeat (first | with_reducible refine up_then ?_ | with_reducible refine up_in ?_)
      refine retct rfl rfl rfl (S11.blk 0 rfl) Tryz.underlying83 rfl (by rw [cmf_sz]; exact sz83) ?_
      have hgo := go_none hg.1
      have hv : gval s = zL := hgo.2
      rw [hv, hgo.1]
      refine ⟨_, rfl, S11.like0, none, 0, fr_nil _ _ _, ?_⟩
      show Value.tuple #[.agg (cmf zCm).toArray, .int .i64 (rcode s)] = _
      rw [hg.2]
      exact congrArg (fun x => Value.tuple #[.agg (cmf x).toArray, _]) zL_cm.symm
    ·
      refine T_skip ?_
      refine hK10 _ _ ?_
      refine T_seq fun K13 hK13 => ?_
      refine T_region ?_
      refine L_y (y_ldW Tryz.underlying83 rfl sz83 rfl (S7.blk 3 rfl) (cm_whole _)) rfl ?_
      refine L_o (o_stW S7 0 rfl rfl rfl (by rw [cmf_sz]; exact sz83) (by first | (rw [cmf_sz]; done) | (rw [cmf_sz]; rfl)) (fun u hu => cmf_one _ u (by rw [List.toList_toArray] at hu; exact hu)) fun w12 S12 => ?_)
      refine L_y (y_assign rfl) rfl ?_
      refine L_nil ?_
      refine hK13 _ _ ?_
      refine T_ret ?_
      repeat (first | with_reducible refine up_then ?_ | with_reducible refine up_in ?_)
      refine retct rfl rfl rfl (S12.blk 0 rfl) Tryz.underlying83 rfl (by rw [cmf_sz]; exact sz83) ?_
      exact absurd hg.2 (fun e => h21 (by rw [e]; decide))


set_option maxRecDepth 100000 in
theorem getMB (B : Option Addr) (m d : Nat) (s : List UInt8) (w0 : World) (hb : Rs w0 1 B m d (bL s)) (hl : s.length ≤ 90000) :
    Calls Tryz.prog 75 #[.slice B m d] w0 fun e w' => ∃ u, e = .returned u ∧ Like w0 w' ∧ u = .tuple #[.agg (mkf (mkOf (mval s))).toArray, .int .i64 (mcode s)] := by
  refine enter1 (env := [(0, .slice B m d)]) [.slice B m d] Tryz.func75 rfl Tryz.ntmps75 rfl rfl ?_
  have S0 := St.start w0 noM
  refine T_seq fun K1 hK1 => ?_
  refine T_region ?_
  refine L_o (o_alloc zz87 S0 rfl fun b1 w1 hb1 S1 => ?_)
  refine L_y (y_assign rfl) rfl ?_
  refine L_nil ?_
  refine hK1 _ _ ?_
  refine T_seq fun K2 hK2 => ?_
  refine T_region ?_
  refine L_y (y_move rfl) rfl ?_
  refine L_y (y_bstr Tryz.underlying22 Tryz.underlying5 Tryz.underlying9 rfl (by first | exact S1.rd hb)) rfl ?_
  refine L_y (y_build rfl (show _ = some #[Value.string ⟨s.toArray⟩] by kernel_rfl)) rfl ?_
  refine L_o (o_box rfl S1 rfl fun b2 w2 hb2 S2 => ?_)
  have S3 : Zx.St w0 noM [blk b1 87 (mkf zMk).toArray, rdR b2 s] w2 := S2.cast (by kernel_rfl)
  refine L_y (y_assign rfl) rfl ?_
  refine L_nil ?_
  refine hK2 _ _ ?_
  refine T_seq fun K3 hK3 => ?_
  refine T_region ?_
  refine L_y (y_move rfl) rfl ?_
  refine L_o (o_call Tryz.func110 rfl rfl (mark b2 s w2 (S3.get 1 rfl) (by omega)) rfl rfl ?_)
  rintro e4 w4 ⟨v4, rfl, s9, T4, rfl⟩
  refine ⟨_, rfl, ?_⟩
  have S4 := S3.turn 1 rfl T4
  refine L_y (y_move rfl) rfl ?_
  refine L_y (y_extract rfl rfl) rfl ?_
  refine L_y (y_extract rfl rfl) rfl ?_
  refine L_o (o_alloc zz87 S4 rfl fun b5 w5 hb5 S5 => ?_)
  refine L_o (o_stW S5 2 rfl rfl rfl (by rw [mkf_sz]; exact sz87) (by first | (rw [mkf_sz]; done) | (rw [mkf_sz]; rfl)) (fun u hu => mkf_one _ u (by rw [List.toList_toArray] at hu; exact hu)) fun w6 S6 => ?_)
  refine L_y (y_assign rfl) rfl ?_
  refine L_nil ?_
  refine hK3 _ _ ?_
  refine T_seq fun K4 hK4 => ?_
  refine T_seq fun K5 hK5 => ?_
  refine T_region ?_
  refine L_y (y_move rfl) rfl ?_
  refine L_y (y_eql rfl rfl) rfl ?_
  refine L_nil ?_
  refine hK5 _ _ ?_
  refine T_cond rfl (fun h17 => ?_) (fun h17 => ?_)
  ·
    have hg := kcode_0 h17
    refine T_region ?_
    refine L_y (y_ldW Tryz.underlying87 rfl sz87 rfl (S6.blk 2 rfl) (mk_whole _)) rfl ?_
    refine L_o (o_call Tryz.func111 rfl rfl (checkM (mkOf (kval s)) w6) rfl rfl ?_)
    rintro e7 w7 ⟨v7, rfl, l7, rfl⟩
    refine ⟨_, rfl, ?_⟩
    have S7 := S6.like l7
    refine L_y (y_assign rfl) rfl ?_
    refine L_nil ?_
    refine hK4 _ _ ?_
    refine T_seq fun K6 hK6 => ?_
    refine T_seq fun K7 hK7 => ?_
    refine T_region ?_
    refine L_y (y_move rfl) rfl ?_
    refine L_y (y_neq rfl rfl) rfl ?_
    refine L_nil ?_
    refine hK7 _ _ ?_
    refine T_cond rfl (fun h21 => ?_) (fun h21 => ?_)
    ·
      refine T_seq fun K8 hK8 => ?_
      refine T_region ?_
      refine L_y (y_build rfl (show _ = some (mkf zMk).toArray by kernel_rfl)) rfl ?_
      refine L_y (y_move rfl) rfl ?_
      refine L_o (o_stW S7 0 rfl rfl rfl (by rw [mkf_sz]; exact sz87) (by first | (rw [mkf_sz]; done) | (rw [mkf_sz]; rfl)) (fun u hu => mkf_one _ u (by rw [List.toList_toArray] at hu; exact hu)) fun w8 S8 => ?_)
      refine L_y (y_assign rfl) rfl ?_
      refine L_nil ?_
      refine hK8 _ _ ?_
      refine T_ret ?_
      repeat (first | with_reducible refine up_then ?_ | with_reducible refine up_in ?_)
      refine retct rfl rfl rfl (S8.blk 0 rfl) Tryz.underlying87 rfl (by rw [mkf_sz]; exact sz87) ?_
      have hgo := mo_some hg
      have hv : mval s = zML := by rw [hgo.2, if_neg (show ¬ chkM (mkOf (kval s)) = 0 from fun e => h21 e)]
      rw [hv, hgo.1, zML_mk]
      exact ⟨_, rfl, S8.like0, rfl⟩
    ·
      refine T_skip ?_
      refine hK6 _ _ ?_
      refine T_seq fun K9 hK9 => ?_
      refine T_region ?_
      refine L_y (y_ldW Tryz.underlying87 rfl sz87 rfl (S7.blk 2 rfl) (mk_whole _)) rfl ?_
      refine L_o (o_stW S7 0 rfl rfl rfl (by rw [mkf_sz]; exact sz87) (by first | (rw [mkf_sz]; done) | (rw [mkf_sz]; rfl)) (fun u hu => mkf_one _ u (by rw [List.toList_toArray] at hu; exact hu)) fun w9 S9 => ?_)
      refine L_y (y_assign rfl) rfl ?_
      refine L_nil ?_
      refine hK9 _ _ ?_
      refine T_ret ?_
      repeat (first | with_reducible refine up_then ?_ | with_reducible refine up_in ?_)
      refine retct rfl rfl rfl (S9.blk 0 rfl) Tryz.underlying87 rfl (by rw [mkf_sz]; exact sz87) ?_
      have hgo := mo_some hg
      have h0 : chkM (mkOf (kval s)) = 0 := Classical.byContradiction fun e => h21 e
      have hv : mval s = kval s := by rw [hgo.2, if_pos h0]
      rw [hv, hgo.1, h0]
      exact ⟨_, rfl, S9.like0, rfl⟩
  ·
    have hg := kcode_n h17
    refine T_skip ?_
    refine hK4 _ _ ?_
    refine T_seq fun K10 hK10 => ?_
    refine T_seq fun K11 hK11 => ?_
    refine T_region ?_
    refine L_y (y_move rfl) rfl ?_
    refine L_y (y_neq rfl rfl) rfl ?_
    refine L_nil ?_
    refine hK11 _ _ ?_
    refine T_cond rfl (fun h21 => ?_) (fun h21 => ?_)
    ·
      refine T_seq fun K12 hK12 => ?_
      refine T_region ?_
      refine L_y (y_build rfl (show _ = some (mkf zMk).toArray by kernel_rfl)) rfl ?_
      refine L_y (y_move rfl) rfl ?_
      refine L_o (o_stW S6 0 rfl rfl rfl (by rw [mkf_sz]; exact sz87) (by first | (rw [mkf_sz]; done) | (rw [mkf_sz]; rfl)) (fun u hu => mkf_one _ u (by rw [List.toList_toArray] at hu; exact hu)) fun w10 S10 => ?_)
      refine L_y (y_assign rfl) rfl ?_
      refine L_nil ?_
      refine hK12 _ _ ?_
      refine T_ret ?_
      repeat (first | with_reducible refine up_then ?_ | with_reducible refine up_in ?_)
      refine retct rfl rfl rfl (S10.blk 0 rfl) Tryz.underlying87 rfl (by rw [mkf_sz]; exact sz87) ?_
      have hgo := mo_none hg.1
      have hv : mval s = zML := hgo.2
      rw [hv, hgo.1, zML_mk]
      exact ⟨_, rfl, S10.like0, by show Value.tuple #[.agg (mkf zMk).toArray, .int .i64 (kcode s)] = _; rw [hg.2]⟩
    ·
      refine T_skip ?_
      refine hK10 _ _ ?_
      refine T_seq fun K13 hK13 => ?_
      refine T_region ?_
      refine L_y (y_ldW Tryz.underlying87 rfl sz87 rfl (S6.blk 2 rfl) (mk_whole _)) rfl ?_
      refine L_o (o_stW S6 0 rfl rfl rfl (by rw [mkf_sz]; exact sz87) (by first | (rw [mkf_sz]; done) | (rw [mkf_sz]; rfl)) (fun u hu => mkf_one _ u (by rw [List.toList_toArray] at hu; exact hu)) fun w11 S11 => ?_)
      refine L_y (y_assign rfl) rfl ?_
      refine L_nil ?_
      refine hK13 _ _ ?_
      refine T_ret ?_
      repeat (first | with_reducible refine up_then ?_ | with_reducible refine up_in ?_)
      refine retct rfl rfl rfl (S11.blk 0 rfl) Tryz.underlying87 rfl (by rw [mkf_sz]; exact sz87) ?_
      exact absurd hg.2 (fun e => h21 (by rw [e]; decide))
end Go.Proofs.YtgaklngnfecdaaaGreat.Rev


/-
  Maps from strings to bools: sets of strings. General; nothing here names a program.
-/
namespace Go.Proofs.YtgaklngnfecdaaaGreat.Zx
open Go.RowKit Zk Go.Maps
set_option linter.unusedVariables false
set_option linter.unusedSimpArgs false
section
variable {P : Program} {N : Nat} {Q : Post} {env : Env} {w w0 : World} {M : Nat → Prop} {rs : List Res} {K : Env → World → Prop} {d : Tmp} {dst : Option Tmp} {ty : TypeId} {pos : String} {after : Array Edge} {g : Option (Nat × Bool)}
def hasS (L : List ByteArray) (s : ByteArray) : Bool := L.any fun t => decide (t = s)
theorem hasS_iff {L : List ByteArray} {s : ByteArray} : hasS L s = true ↔ s ∈ L := by
  unfold hasS
  rw [List.any_eq_true]
  constructor
  · rintro ⟨t, h1, h2⟩
    rw [← of_decide_eq_true h2]
    exact h1
  · exact fun h => ⟨s, h, decide_eq_true rfl⟩
/-- The map holds just these. -/
def SM (D : DU) (L : List ByteArray) : Prop := IsMap D ∧ ∀ s : ByteArray, D.atKey (.string s.data.toList) (.lit (.bool false)) = .lit (.bool (hasS L s))
theorem SM.nil : SM (.map []) [] := ⟨⟨[], rfl⟩, fun s => rfl⟩
theorem bytes_inj {a b : ByteArray} (h : a.data.toList = b.data.toList) : a = b := by
  apply ByteArray.ext
  exact Array.toList_inj.1 h
theorem SM.put {D : DU} {L : List ByteArray} (h : SM D L) (s : ByteArray) : SM (D.put (.string s.data.toList) (.lit (.bool true))) (L ++ [s]) := by
  refine ⟨?_, fun t => ?_⟩
  · obtain ⟨es, rfl⟩ := h.1
    exact ⟨_, rfl⟩
  · by_cases e : t = s
    · subst e
      rw [atKey_put_same h.1 (show WideAt.IsKeyLit (.string _) from trivial), hasS_iff.2 (by simp)]
    · have e2 : hasS (L ++ [s]) t = hasS L t := by
        rw [Bool.eq_iff_iff, hasS_iff, hasS_iff]
        simp [e]
      rw [atKey_put_other (fun q => e (bytes_inj (by injection q))), h.2 t, e2]
theorem y_lookZ {t k e : TypeId} {b n : Nat} {D : DU} {L : List ByteArray} {m x : Operand} {s : ByteArray} (hown : w.ownsMap P k (plainElem P e) b n D) (hk : P.underlying k = some .string) (ht : P.underlying t = some (.map k e)) (he : P.underlying e = some .bool)
    (hz : ∀ w, (zeroValue e).run P w = .ok (.bool false) w) (hm : ev env m = some (.map (some b))) (hx : ev env x = some (.string s)) (hs : s.size ≤ maxLen) (hc : SM D L) :
    Y P (Like w) env ⟨dst, .lookup t m x false, ty, pos, after, g⟩ (.bool (hasS L s)) := fun N a w' ha hw => by
  have h2 : w'.ownsMap P k (plainElem P e) b n D := (mapR P k e b n D).stable w w' (fun i hi => by have hi' : i = b := hi; subst hi'; exact hw.block i hown.lt) hown
  obtain ⟨v, ps, hrun, hv⟩ := h2.lookup (Maps.string_keyed hk) ht (hz w') (plainElem_bool (H := Unit) he false) (Go.WideMaps.keyOf_string_mk hk hs)
  rw [hc.2 s] at hv
  have e1 : v = .bool (hasS L s) := by
    cases v with
    | bool c =>
      rw [plainElem_bool he] at hv
      have := Option.some.inj hv
      have h3 := congrArg Prod.fst this
      simp only [DataW.lit.injEq, Lit.bool.injEq] at h3
      rw [h3]
    | _ => simp [plainElem, he] at hv
  subst e1
  simp only [execOp, ha.eval hm, ha.eval hx, Sem.run_bind, hrun, Sem.run_pure, Result.andThen_ok]
theorem o_mapUpZ {t k e : TypeId} {b n : Nat} {D : DU} {m x v : Operand} {s : ByteArray} {c : Bool} (S : St w0 M rs w) (j : Nat) (hj : rs[j]? = some (mapR P k e b n D)) (hk : P.underlying k = some .string) (ht : P.underlying t = some (.map k e)) (he : P.underlying e = some .bool)
    (hm : ev env m = some (.map (some b))) (hx : ev env x = some (.string s)) (hv : ev env v = some (.bool c)) (hs : s.size ≤ maxLen) (hn : n < 9223372036854775807)
    (h : ∀ w', St w0 M (rs.set j (mapR P k e b (n + 1) (D.put (.string s.data.toList) (.lit (.bool c))))) w' → K env w') :
    O P N Q ⟨none, .mapUpdate t m x v, ty, pos, after, g⟩ env w K := fun a ha => by
  have hown : w.ownsMap P k (plainElem P e) b n D := S.get j hj
  obtain ⟨w', hrun, h1, h2⟩ := hown.update (Maps.string_keyed hk) ht (by unfold maxLen; exact hn) (Go.WideMaps.keyOf_string_mk hk hs) (plainElem_bool (H := Unit) he c)
  unfold Oper.wp
  simp only [execOp, ha.eval hm, ha.eval hx, ha.eval hv, Sem.run_bind, hrun, Sem.run_pure, Result.andThen_ok]
  refine ⟨env, ha, h w' (S.upd j hj h2.os h2.tape h2.output h2.size (fun i hi hn => h2.block i hi fun e => hn ?_) h1 fun i hi => .inl hi)⟩
  injection e with e
end
end Go.Proofs.YtgaklngnfecdaaaGreat.Zx


/-
  tree.Check.
-/
namespace Go.Proofs.YtgaklngnfecdaaaGreat.Tre
open Go.RowKit Zk Zx
set_option linter.unusedVariables false
set_option linter.unusedSimpArgs false

theorem ok_next {l : List EV} {k : Nat} {x : EV} (h : ∀ j e, j < k → l[j]? = some e → mdOk e.md ∧ nmOk e.nm = true) (hx : l[k]? = some x) (h1 : mdOk x.md) (h2 : nmOk x.nm = true) : ∀ j e, j < k + 1 → l[j]? = some e → mdOk e.md ∧ nmOk e.nm = true := fun j e hj he => by
  rcases Nat.lt_or_ge j k with q | q
  · exact h j e q he
  · obtain rfl : j = k := by omega
    rw [hx] at he
    cases he
    exact ⟨h1, h2⟩
theorem ris_next {l : List EV} {k : Nat} {x y : EV} (h : ∀ j x y, j + 1 < k → l[j]? = some x → l[j + 1]? = some y → ltK x y = true) (hx : l[k - 1]? = some x) (hy : l[k]? = some y) (h0 : 0 < k) (h1 : ltK x y = true) : ∀ j x y, j + 1 < k + 1 → l[j]? = some x → l[j + 1]? = some y → ltK x y = true := fun j a b hj ha hb => by
  rcases Nat.lt_or_ge (j + 1) k with q | q
  · exact h j a b q ha hb
  · obtain rfl : j = k - 1 := by omega
    rw [show k - 1 + 1 = k by omega] at hb
    rw [hx] at ha
    rw [hy] at hb
    cases ha
    cases hb
    exact h1
theorem enf_sz (x : EV) : (enf x).toArray.size = 34 := by rw [List.size_toArray, enf_len]
theorem szE (x : EV) : (Tryz.prog.info? 149).map (·.size) = some (enf x).toArray.size := sz149.trans (congrArg some (by rw [List.size_toArray, enf_len]))
theorem risK_fin {l : List EV} {k : Nat} (h : ∀ j x y, j + 1 < k → l[j]? = some x → l[j + 1]? = some y → ltK x y = true) (h1 : k ≤ l.length ∨ k = 1) (h2 : l.length ≤ k) : risK l = true := by
  rcases h1 with h1 | h1
  · exact (risK_at l k h h1).trans (risK_end (by omega))
  · subst h1
    match l, h2 with
    | [], _ => rfl
    | [x], _ => rfl
    | x :: y :: m, h2 => simp at h2
theorem chkE_long {l : List EV} (h : 64 < l.length) : chkE l = 3 := by unfold chkE; rw [if_pos h]
theorem chkE_one {l : List EV} {c : Int} (h : ¬ 64 < l.length) (h1 : chk1 l = c) (hc : c ≠ 0) : chkE l = c := by unfold chkE; rw [if_neg h, if_pos (by rw [h1]; exact hc), h1]
theorem chkE_twice {l : List EV} (h : ¬ 64 < l.length) (h1 : chk1 l = 0) (h2 : ¬ once l) : chkE l = 17 := by unfold chkE; rw [if_neg h, if_neg (by omega), if_pos h2]
theorem chkE_ord {l : List EV} (h : ¬ 64 < l.length) (h1 : chk1 l = 0) (h2 : once l) (h3 : risK l = false) : chkE l = 18 := by unfold chkE; rw [if_neg h, if_neg (by omega), if_neg (fun x => x h2), if_pos h3]
theorem chkE_ok {l : List EV} (h : ¬ 64 < l.length) (h1 : chk1 l = 0) (h2 : once l) (h3 : risK l = true) : chkE l = 0 := by unfold chkE; rw [if_neg h, if_neg (by omega), if_neg (fun x => x h2), if_neg (by rw [h3]; exact fun x => by cases x)]


set_option maxRecDepth 100000 in
theorem pcheck (A : Option Addr) (n c : Nat) (l : List EV) (w0 : World) (hl : Rs w0 34 A n c (l.flatMap enf)) (hn5 : n ≤ 10000) :
    Calls Tryz.prog 107 #[.slice A n c] w0 fun e w' => ∃ u, e = .returned u ∧ Like w0 w' ∧ u = .int .i64 (chkE l) := by
  refine enter1 (env := [(0, .slice A n c)]) [.slice A n c] Tryz.func107 rfl Tryz.ntmps107 rfl rfl ?_
  have hn := ens_n hl; have hcap := hl.cap; have hmax := hl.max; have S0 := St.start w0 noM
  refine T_seq fun K1 hK1 => ?_
  refine T_region ?_
  refine L_y (y_assign rfl) rfl ?_
  refine L_nil ?_
  refine hK1 _ _ ?_
  refine T_seq fun K2 hK2 => ?_
  refine T_seq fun K3 hK3 => ?_
  refine T_region ?_
  refine L_y (y_move rfl) rfl ?_
  refine L_y (y_len Tryz.underlying78 rfl) rfl ?_
  refine L_y (y_gtr rfl rfl) rfl ?_
  refine L_nil ?_
  refine hK3 _ _ ?_
  refine T_cond rfl (fun h10 => ?_) (fun h10 => ?_)
  ·
    refine T_seq fun K4 hK4 => ?_
    refine T_region ?_
    refine L_y (y_assign rfl) rfl ?_
    refine L_nil ?_
    refine hK4 _ _ ?_
    refine T_ret ?_
    repeat (first | with_reducible refine up_then ?_ | with_reducible refine up_in ?_)
    refine ret1 rfl rfl ?_
    exact ⟨_, rfl, S0.like0, congrArg (Value.int _) (chkE_long (by omega)).symm⟩
  ·
    refine T_skip ?_
    refine hK2 _ _ ?_
    refine T_seq fun K5 hK5 => ?_
    refine T_region ?_
    refine L_o (o_makeMap (t := 232) (k := 9) (e := 4) S0 rfl fun b1 w1 hb1 S1 => ?_)
    refine L_y (y_assign rfl) rfl ?_
    refine L_nil ?_
    refine hK5 _ _ ?_
    refine T_seq fun K6 hK6 => ?_
    refine T_region ?_
    refine L_y (y_assign rfl) rfl ?_
    refine L_nil ?_
    refine hK6 _ _ ?_
    refine T_seq fun K7 hK7 => ?_
    refine T_seq fun K8 hK8 => ?_
    refine T_region ?_
    refine L_y (y_move rfl) rfl ?_
    refine L_y (y_len Tryz.underlying78 rfl) rfl ?_
    refine L_y (y_move rfl) rfl ?_
    refine L_nil ?_
    refine hK8 _ _ ?_
    refine T_block ?_
    refine T_loop3 [(0, _), (3, _), (12, _), (13, _)] (fun (k : Nat) (tw : Bool) (D : DU) => [(14, .int .i64 (k : Int)), (4, .bool tw)]) (fun (k : Nat) (tw : Bool) (D : DU) => n - k) (fun (k : Nat) (tw : Bool) (D : DU) (w : World) => (k ≤ n ∧ (∀ j e, j < k → l[j]? = some e → mdOk e.md ∧ nmOk e.nm = true) ∧ tw = decide (¬ once (l.take k)) ∧ SM D ((l.take k).map EV.nm)) ∧ St w0 noM [mapR Tryz.prog 9 4 b1 k D] w) 0 false (.map []) (Sub.cons rfl (by first | rfl | exact congrArg (Value.int _) (by omega)) (Sub.cons rfl (by first | rfl | exact congrArg (Value.int _) (by omega)) (Sub.nil _))) (Sub.cons rfl rfl (Sub.cons rfl rfl (Sub.cons rfl rfl (Sub.cons rfl rfl (Sub.nil _))))) ?_ ?_
    ·
      exact ⟨⟨Nat.zero_le _, fun j e hj => absurd hj (by omega), by simp [once], SM.nil⟩, S1⟩
    ·
      intro k tw D w2 hrel
      obtain ⟨⟨hk, hok, htw, hsm⟩, S2⟩ := hrel
      refine T_seq fun K9 hK9 => ?_
      refine T_region ?_
      refine L_y (y_lss rfl rfl) rfl ?_
      refine L_nil ?_
      refine hK9 _ _ ?_
      refine T_seq fun K10 hK10 => ?_
      refine T_cond rfl (fun h15 => ?_) (fun h15 => ?_)
      ·
        obtain ⟨x, hx⟩ : ∃ x, l[k]? = some x := ⟨_, List.getElem?_eq_getElem (by omega)⟩
        refine T_skip ?_
        refine hK10 _ _ ?_
        refine T_seq fun K11 hK11 => ?_
        refine T_block ?_
        refine T_seq fun K12 hK12 => ?_
        refine T_region ?_
        refine L_y (y_idx Tryz.underlying78 sz149 rfl rfl (S2.rd hl) (Nt.mk (by omega) : Nt _ (k)) (by omega)) rfl ?_
        refine L_y (y_ldp (f := enf) enf_len Tryz.underlying149 rfl sz149 rfl (S2.rd hl) (by omega) hx) rfl ?_
        refine L_o (o_alloc zz149 S2 rfl fun b3 w3 hb3 S3 => ?_)
        refine L_o (o_stW S3 1 rfl rfl rfl (szE x) ((enf_sz x).trans (by kernel_rfl)) (enf_one x) fun w4 S4 => ?_)
        refine L_nil ?_
        refine hK12 _ _ ?_
        refine T_seq fun K13 hK13 => ?_
        refine T_seq fun K14 hK14 => ?_
        refine T_region ?_
        refine L_y (y_fieldA 1 Tryz.underlying149 rfl sz3 rfl rfl rfl) rfl ?_
        refine L_y (y_ldc Tryz.underlying3 rfl rfl (((S4.blk 1 rfl).cell _).trans (by rfl))) rfl ?_
        refine L_o (o_call Tryz.func140 rfl rfl (mode_ x.md w4) rfl rfl ?_)
        rintro e5 w5 ⟨v5, rfl, l5, rfl⟩
        refine ⟨_, rfl, ?_⟩
        have S5 := S4.like l5
        refine L_y ((by first | exact y_notD rfl | exact y_not rfl)) rfl ?_
        refine L_nil ?_
        refine hK14 _ _ ?_
        refine T_cond rfl (fun h21 => ?_) (fun h21 => ?_)
        ·
          have hmd : ¬ mdOk x.md := h21
          refine T_seq fun K15 hK15 => ?_
          refine T_region ?_
          refine L_y (y_assign rfl) rfl ?_
          refine L_nil ?_
          refine hK15 _ _ ?_
          refine T_ret ?_
          repeat (first | with_reducible refine up_then ?_ | with_reducible refine up_in ?_)
          refine ret1 rfl rfl ?_
          exact ⟨_, rfl, S5.like0, congrArg (Value.int _) (chkE_one (by omega) ((chk1_at k hok (by omega)).trans (chk1_md hx hmd)) (by decide)).symm⟩
        ·
          have hmd : mdOk x.md := Decidable.not_not.1 h21
          refine T_skip ?_
          refine hK13 _ _ ?_
          refine T_seq fun K16 hK16 => ?_
          refine T_seq fun K17 hK17 => ?_
          refine T_region ?_
          refine L_y (y_fieldA 0 Tryz.underlying149 rfl sz9 rfl rfl rfl) rfl ?_
          refine L_y (y_ldc Tryz.underlying9 rfl rfl (((S5.blk 1 rfl).cell _).trans (by rfl))) rfl ?_
          refine L_o (o_call Tryz.func142 rfl rfl (pname x.nm w5) rfl rfl ?_)
          rintro e6 w6 ⟨v6, rfl, l6, rfl⟩
          refine ⟨_, rfl, ?_⟩
          have S6 := S5.like l6
          refine L_y ((by first | exact y_notD rfl | exact y_not rfl)) rfl ?_
          refine L_nil ?_
          refine hK17 _ _ ?_
          refine T_condB rfl (fun h25 => ?_) (fun h25 => ?_)
          ·
            have hnm : nmOk x.nm = false := by simpa using h25
            refine T_seq fun K18 hK18 => ?_
            refine T_region ?_
            refine L_y (y_assign rfl) rfl ?_
            refine L_nil ?_
            refine hK18 _ _ ?_
            refine T_ret ?_
            repeat (first | with_reducible refine up_then ?_ | with_reducible refine up_in ?_)
            refine ret1 rfl rfl ?_
            exact ⟨_, rfl, S6.like0, congrArg (Value.int _) (chkE_one (by omega) ((chk1_at k hok (by omega)).trans (chk1_nm hx hmd hnm)) (by decide)).symm⟩
          ·
            have hnm : nmOk x.nm = true := by simpa using h25
            refine T_skip ?_
            refine hK16 _ _ ?_
            refine T_seq fun K19 hK19 => ?_
            refine T_region ?_
            refine L_y (y_move rfl) rfl ?_
            refine L_y (y_move rfl) rfl ?_
            refine L_splitB 27 rfl (fun h27 => ?_) (fun h27 => ?_)
            ·
              refine L_gno rfl rfl rfl ?_
              refine L_gno rfl rfl rfl ?_
              refine L_gno rfl rfl rfl ?_
              refine L_gno rfl rfl rfl ?_
              refine L_y ((by first | exact y_pickT rfl rfl | exact y_pickF rfl rfl)) rfl ?_
              refine L_y (y_assign rfl) rfl ?_
              refine L_nil ?_
              refine hK19 _ _ ?_
              refine T_region ?_
              refine L_y (y_move rfl) rfl ?_
              refine L_y (y_fieldA 0 Tryz.underlying149 rfl sz9 rfl rfl rfl) rfl ?_
              refine L_y (y_ldc Tryz.underlying9 rfl rfl (((S6.blk 1 rfl).cell _).trans (by rfl))) rfl ?_
              refine L_o (o_mapUpZ S6 0 rfl Tryz.underlying9 Tryz.underlying232 Tryz.underlying4 rfl rfl rfl (Nat.le_trans x.h.2 (by decide)) (by omega) fun w8 S8 => ?_)
              refine L_nil ?_
              refine hK11 _ _ ?_
              refine T_region ?_
              refine L_y (y_add rfl rfl (i64w (by omega))) rfl ?_
              refine L_y (y_move rfl) rfl ?_
              refine L_nil ?_
              have hon2 : true = decide (¬ once (l.take (k + 1))) := by have h8 : ¬ once (l.take k) := of_decide_eq_true (htw.symm.trans h27); rw [eq_comm, decide_eq_true_iff]; exact fun h9 => h8 (once_down h9)
              have S9 := S8.drop (.cons_cons _ (.cons _ (.refl _)))
              refine ⟨k + 1, _, _, by omega, ⟨⟨by omega, ok_next hok hx hmd hnm, hon2, by rw [take_sn2 hx, List.map_append]; exact hsm.put x.nm⟩, S9⟩, ?_⟩
              exact (Sub.cons rfl (by first | rfl | exact congrArg (Value.int _) (by omega)) (Sub.cons rfl (by first | rfl | exact congrArg (Value.int _) (by omega)) (Sub.cons rfl rfl (Sub.cons rfl rfl (Sub.cons rfl rfl (Sub.cons rfl rfl (Sub.nil _)))))))
            ·
              refine L_gyes rfl rfl ?_
              refine L_y (y_move rfl) rfl ?_
              refine L_gyes rfl rfl ?_
              refine L_y (y_fieldA 0 Tryz.underlying149 rfl sz9 rfl rfl rfl) rfl ?_
              refine L_gyes rfl rfl ?_
              refine L_y (y_ldc Tryz.underlying9 rfl rfl (((S6.blk 1 rfl).cell _).trans (by rfl))) rfl ?_
              refine L_gyes rfl rfl ?_
              refine L_y (y_lookZ (S6.get 0 rfl) Tryz.underlying9 Tryz.underlying232 Tryz.underlying4 zz4 rfl rfl (Nat.le_trans x.h.2 (by decide)) hsm) rfl ?_
              refine L_y ((by first | exact y_pickT rfl rfl | exact y_pickF rfl rfl)) rfl ?_
              refine L_y (y_assign rfl) rfl ?_
              refine L_nil ?_
              refine hK19 _ _ ?_
              refine T_region ?_
              refine L_y (y_move rfl) rfl ?_
              refine L_y (y_fieldA 0 Tryz.underlying149 rfl sz9 rfl rfl rfl) rfl ?_
              refine L_y (y_ldc Tryz.underlying9 rfl rfl (((S6.blk 1 rfl).cell _).trans (by rfl))) rfl ?_
              refine L_o (o_mapUpZ S6 0 rfl Tryz.underlying9 Tryz.underlying232 Tryz.underlying4 rfl rfl rfl (Nat.le_trans x.h.2 (by decide)) (by omega) fun w9 S9 => ?_)
              refine L_nil ?_
              refine hK11 _ _ ?_
              refine T_region ?_
              refine L_y (y_add rfl rfl (i64w (by omega))) rfl ?_
              refine L_y (y_move rfl) rfl ?_
              refine L_nil ?_
              have hon2 : hasS ((l.take k).map EV.nm) x.nm = decide (¬ once (l.take (k + 1))) := by rw [Bool.eq_iff_iff, hasS_iff, decide_eq_true_iff]; have h8 : once (l.take k) := Decidable.not_not.1 (of_decide_eq_false (htw.symm.trans h27)); exact ⟨fun h => not_onceT hx h, fun h => Classical.byContradiction fun h9 => h (once_snoc hx h8 h9)⟩
              have S9 := S9.drop (.cons_cons _ (.cons _ (.refl _)))
              refine ⟨k + 1, _, _, by omega, ⟨⟨by omega, ok_next hok hx hmd hnm, hon2, by rw [take_sn2 hx, List.map_append]; exact hsm.put x.nm⟩, S9⟩, ?_⟩
              exact (Sub.cons rfl (by first | rfl | exact congrArg (Value.int _) (by omega)) (Sub.cons rfl (by first | rfl | exact congrArg (Value.int _) (by omega)) (Sub.cons rfl rfl (Sub.cons rfl rfl (Sub.cons rfl rfl (Sub.cons rfl rfl (Sub.nil _)))))))
      ·
        have hkn : k = n := by omega
        rw [List.take_of_length_le (by omega)] at htw
        have hc1 : chk1 l = 0 := (chk1_at k hok (by omega)).trans (by rw [List.drop_of_length_le (by omega)]; rfl)
        refine T_exit ?_
        refine hK7 _ _ ?_
        refine T_seq fun K20 hK20 => ?_
        refine T_seq fun K21 hK21 => ?_
        refine T_region ?_
        refine L_y (y_move rfl) rfl ?_
        refine L_nil ?_
        refine hK21 _ _ ?_
        refine T_condB rfl (fun h37 => ?_) (fun h37 => ?_)
        ·
          have hon : ¬ once l := of_decide_eq_true (htw.symm.trans h37)
          refine T_seq fun K22 hK22 => ?_
          refine T_region ?_
          refine L_y (y_assign rfl) rfl ?_
          refine L_nil ?_
          refine hK22 _ _ ?_
          refine T_ret ?_
          repeat (first | with_reducible refine up_then ?_ | with_reducible refine up_in ?_)
          refine ret1 rfl rfl ?_
          exact ⟨_, rfl, S2.like0, congrArg (Value.int _) (chkE_twice (by omega) hc1 hon).symm⟩
        ·
          have hon : once l := Decidable.not_not.1 (of_decide_eq_false (htw.symm.trans h37))
          refine T_skip ?_
          refine hK20 _ _ ?_
          refine T_seq fun K23 hK23 => ?_
          refine T_seq fun K24 hK24 => ?_
          refine T_region ?_
          refine L_y (y_assign rfl) rfl ?_
          refine L_nil ?_
          refine hK24 _ _ ?_
          refine T_block ?_
          refine T_loop1 [(0, _)] (fun (k : Nat) => [(7, .int .i64 (k : Int))]) (fun (k : Nat) => n - k) (fun (k : Nat) (w : World) => ((1 ≤ k ∧ (k ≤ n ∨ k = 1)) ∧ (∀ j x y, j + 1 < k → l[j]? = some x → l[j + 1]? = some y → ltK x y = true)) ∧ St w0 noM [] w) 1 (Sub.cons rfl (by first | rfl | exact congrArg (Value.int _) (by omega)) (Sub.nil _)) (Sub.cons rfl rfl (Sub.nil _)) ?_ ?_
          ·
            exact ⟨⟨⟨Nat.le_refl _, .inr rfl⟩, fun j x y hj => absurd hj (by omega)⟩, S2.drop (.cons _ (.refl _))⟩
          ·
            intro k w10 hrel
            obtain ⟨⟨⟨hk1, hk2⟩, hri⟩, S10⟩ := hrel
            refine T_seq fun K25 hK25 => ?_
            refine T_seq fun K26 hK26 => ?_
            refine T_region ?_
            refine L_y (y_move rfl) rfl ?_
            refine L_y (y_move rfl) rfl ?_
            refine L_y (y_len Tryz.underlying78 rfl) rfl ?_
            refine L_y (y_lss rfl rfl) rfl ?_
            refine L_nil ?_
            refine hK26 _ _ ?_
            refine T_cond rfl (fun h41 => ?_) (fun h41 => ?_)
            ·
              obtain ⟨x, hx⟩ : ∃ x, l[k - 1]? = some x := ⟨_, List.getElem?_eq_getElem (by omega)⟩
              obtain ⟨y, hy⟩ : ∃ y, l[k]? = some y := ⟨_, List.getElem?_eq_getElem (by omega)⟩
              refine T_skip ?_
              refine hK25 _ _ ?_
              refine T_seq fun K27 hK27 => ?_
              refine T_block ?_
              refine T_seq fun K28 hK28 => ?_
              refine T_tail 9 hmix (by kernel_rfl) fun w11 l11 K29 hK29 => ?_
              have S11 := S10.like l11
              refine HL_y (y_move rfl) rfl ?_
              refine HL_y (y_move rfl) rfl ?_
              refine HL_y (y_sub rfl rfl (i64w (by omega))) rfl ?_
              refine HL_y (y_idx Tryz.underlying78 sz149 rfl rfl (S11.rd hl) (Nt.mk (by omega) : Nt _ (k - 1)) (by omega)) rfl ?_
              refine HL_y (y_ldp (f := enf) enf_len Tryz.underlying149 rfl sz149 rfl (S11.rd hl) (by omega) hx) rfl ?_
              refine HL_y (y_move rfl) rfl ?_
              refine HL_y (y_move rfl) rfl ?_
              refine HL_y (y_idx Tryz.underlying78 sz149 rfl rfl (S11.rd hl) (Nt.mk (by omega) : Nt _ (k)) (by omega)) rfl ?_
              refine HL_y (y_ldp (f := enf) enf_len Tryz.underlying149 rfl sz149 rfl (S11.rd hl) (by omega) hy) rfl ?_
              refine HL_nil ?_
              refine hK29 _ ?_
              refine L_o (o_call Tryz.func143 rfl rfl (order x y w11) rfl rfl ?_)
              rintro e12 w12 ⟨v12, rfl, l12, v53, rfl, hv53⟩
              refine ⟨_, rfl, ?_⟩
              have S12 := S11.like l12
              refine L_y (y_geq rfl rfl) rfl ?_
              refine L_nil ?_
              refine hK28 _ _ ?_
              refine T_cond rfl (fun h54 => ?_) (fun h54 => ?_)
              ·
                have hxy : ltK x y = false := by cases h9 : ltK x y with | false => rfl | true => exact absurd (hv53.2 h9) (by omega)
                refine T_seq fun K30 hK30 => ?_
                refine T_region ?_
                refine L_y (y_assign rfl) rfl ?_
                refine L_nil ?_
                refine hK30 _ _ ?_
                refine T_ret ?_
                repeat (first | with_reducible refine up_then ?_ | with_reducible refine up_in ?_)
                refine ret1 rfl rfl ?_
                exact ⟨_, rfl, S12.like0, congrArg (Value.int _) (chkE_ord (by omega) hc1 hon ((risK_at l k hri (by omega)).trans (risK_no hx (by rw [show k - 1 + 1 = k by omega]; exact hy) hxy))).symm⟩
              ·
                have hxy : ltK x y = true := hv53.1 (by omega)
                refine T_skip ?_
                refine hK27 _ _ ?_
                refine T_region ?_
                refine L_y (y_move rfl) rfl ?_
                refine L_y (y_add rfl rfl (i64w (by omega))) rfl ?_
                refine L_y (y_assign rfl) rfl ?_
                refine L_nil ?_
                refine ⟨k + 1, by omega, ⟨⟨⟨by omega, by omega⟩, ris_next hri hx hy (by omega) hxy⟩, S12⟩, ?_⟩
                exact (Sub.cons rfl (congrArg (Value.int _) (by omega)) (Sub.cons rfl rfl (Sub.nil _)))
            ·
              refine T_exit ?_
              refine hK23 _ _ ?_
              refine T_seq fun K31 hK31 => ?_
              refine T_region ?_
              refine L_y (y_assign rfl) rfl ?_
              refine L_nil ?_
              refine hK31 _ _ ?_
              refine T_ret ?_
              repeat (first | with_reducible refine up_then ?_ | with_reducible refine up_in ?_)
              refine ret1 rfl rfl ?_
              exact ⟨_, rfl, S10.like0, congrArg (Value.int _) (chkE_ok (by omega) hc1 hon (risK_fin hri (by omega) (by omega))).symm⟩
end Go.Proofs.YtgaklngnfecdaaaGreat.Tre


/-
  The document: Check.
-/
namespace Go.Proofs.YtgaklngnfecdaaaGreat.Tre
open Go.RowKit Zk Zx
set_option linter.unusedVariables false
set_option linter.unusedSimpArgs false

theorem once_in {l : List EV} {i k : Nat} {x : EV} (hi : l[i]? = some x) (hik : i < k) : x.nm ∈ (l.take k).map EV.nm :=
  List.mem_map.2 ⟨x, List.mem_of_getElem? (by rw [List.getElem?_take, if_pos hik]; exact hi), rfl⟩
theorem once_out {l : List EV} {k : Nat} {x : EV} (h : ∀ j y, j < k → l[j]? = some y → y.nm ≠ x.nm) : x.nm ∉ (l.take k).map EV.nm := fun hm => by
  obtain ⟨y, hy, e⟩ := List.mem_map.1 hm
  obtain ⟨j, hj, rfl⟩ := List.getElem_of_mem hy
  have hjk : j < k := by rw [List.length_take] at hj; omega
  exact h j _ hjk (by rw [List.getElem_take]; exact List.getElem?_eq_getElem _) e
theorem en_get (l : List EV) (k t : Nat) (x : EV) (hx : l[k]? = some x) (ht : t < 34) : (l.flatMap enf)[k * 34 + t]? = (enf x)[t]? := by
  have h := drop_hd2 hx
  have e : l = l.take k ++ x :: l.drop (k + 1) := by rw [← h, List.take_append_drop]
  have hk := (List.getElem?_eq_some_iff.1 hx).1
  rw [e, List.flatMap_append, List.flatMap_cons, List.getElem?_append_right (by rw [ens_len, List.length_take]; omega), ens_len, List.length_take, Nat.min_eq_left (by omega), Nat.add_sub_cancel_left, List.getElem?_append_left (by rw [enf_len]; exact ht)]
theorem en_nm {l : List EV} {k : Nat} {x : EV} (hx : l[k]? = some x) : (l.flatMap enf)[k * 34 + 0]? = some (.string x.nm) := (en_get l k 0 x hx (by omega)).trans rfl
theorem en_md {l : List EV} {k : Nat} {x : EV} (hx : l[k]? = some x) : (l.flatMap enf)[k * 34 + 1]? = some (.int .i64 x.md) := (en_get l k 1 x hx (by omega)).trans rfl


end Go.Proofs.YtgaklngnfecdaaaGreat.Tre


/-
  Index, Cut of bytes.
-/
namespace Go.Proofs.YtgaklngnfecdaaaGreat.Obj
open Go.RowKit Zk Zx
open Oid (idf idf_len)
open Tre (nmOk EV enf enf_len mdOk chkE)
open Rev (cutF cutF_some cutF_none)
set_option linter.unusedVariables false
set_option linter.unusedSimpArgs false

theorem bytesOf_nat (l : List UInt8) : Lib.bytesOf (l.map fun c => (c.toNat : Int)) = l := by
  unfold Lib.bytesOf
  rw [List.map_map]
  conv => rhs; rw [← List.map_id l]
  apply List.map_congr_left
  intro c _
  simp
theorem byteC (c : UInt8) : ((c.toNat : Int)).toNat.toUInt8 = c := by rw [Int.toNat_natCast]; exact UInt8.ofNat_toNat
theorem bidx1 (a : Addr) (n c b2 d : Nat) (l : List UInt8) (x : UInt8) (w0 : World) (hb : Rs w0 1 (some a) n c (bL l)) (hs : Rs w0 1 (some ⟨b2, 0, none⟩) 1 d (bL [x])) : Calls Tryz.prog 170 #[.slice (some a) n c, .slice (some ⟨b2, 0, none⟩) 1 d] w0 fun e w' => ∃ u, e = .returned u ∧ Like w0 w' ∧ u = .int .i64 (Lib.indexByte l x) := by
  have hl := hb.lenb
  have hc2 : w0.cell? ⟨b2, 0, none⟩ = some (.int .u8 (x.toNat : Int)) := by
    obtain ⟨ad, v, h1, h2, h3⟩ := hs.at_ (k := 0) (by omega)
    cases h1
    have h4 : v = .int .u8 (x.toNat : Int) := by cases h2; rfl
    rw [h4] at h3
    exact h3
  have h := Any.bytes_Index_one_at Tre.idxB a n c b2 0 d (l.map fun c => (c.toNat : Int)) (x.toNat : Int) w0 (by rw [List.length_map]; exact hl) (fun i hi => by
    obtain ⟨ad, v, h1, h2, h3⟩ := hb.at_ hi
    cases h1
    rw [h3]
    have hx : l[i]? = some l[i] := List.getElem?_eq_getElem (by omega)
    rw [bL_get _ _ _ hx] at h2
    cases h2
    rw [List.getD_eq_getElem?_getD, List.getElem?_map, hx]
    rfl) hc2
  rw [bytesOf_nat, byteC] at h
  refine (show Calls Tryz.prog 170 _ _ _ from h).mono fun e w' ⟨h1, h2⟩ => ?_
  subst h2
  exact ⟨_, h1, Like.refl _, rfl⟩
/-- What Cut answers at one byte. -/
def bcutV (c : UInt8) (a : Addr) (n cp : Nat) (l : List UInt8) : Value := match cutF c l with
  | some (p, q) => .tuple #[.slice (cutA (some a) cp 0 1) p.length cp, .slice (cutA (some a) cp (p.length + 1) 1) (n - (p.length + 1)) (cp - (p.length + 1)), .bool true]
  | none => .tuple #[.slice (some a) n cp, .slice none 0 0, .bool false]
theorem bcutV_some {c : UInt8} {a : Addr} {n cp : Nat} {l p q : List UInt8} (h : cutF c l = some (p, q)) : bcutV c a n cp l = .tuple #[.slice (cutA (some a) cp 0 1) p.length cp, .slice (cutA (some a) cp (p.length + 1) 1) (n - (p.length + 1)) (cp - (p.length + 1)), .bool true] := by unfold bcutV; rw [h]
theorem bcutV_none {c : UInt8} {a : Addr} {n cp : Nat} {l : List UInt8} (h : cutF c l = none) : bcutV c a n cp l = .tuple #[.slice (some a) n cp, .slice none 0 0, .bool false] := by unfold bcutV; rw [h]
theorem idx_some {c : UInt8} {l p q : List UInt8} (h : cutF c l = some (p, q)) : Lib.indexByte l c = (p.length : Int) := by have := Rev.idx_cut c l; rw [h] at this; exact this
theorem idx_none {c : UInt8} {l : List UInt8} (h : cutF c l = none) : Lib.indexByte l c = -1 := by have := Rev.idx_cut c l; rw [h] at this; exact this


set_option maxRecDepth 100000 in
theorem bcut1 (a : Addr) (n c b2 d : Nat) (l : List UInt8) (x : UInt8) (w0 : World) (hb : Rs w0 1 (some a) n c (bL l)) (hs : Rs w0 1 (some ⟨b2, 0, none⟩) 1 d (bL [x])) (p q : List UInt8) (hcf : cutF x l = some (p, q)) :
    Calls Tryz.prog 141 #[.slice (some a) n c, .slice (some ⟨b2, 0, none⟩) 1 d] w0 fun e w' => ∃ u, e = .returned u ∧ Like w0 w' ∧ u = bcutV x a n c l := by
  refine enter1 (env := [(0, .slice (some a) n c), (1, .slice (some ⟨b2, 0, none⟩) 1 d)]) [.slice (some a) n c, .slice (some ⟨b2, 0, none⟩) 1 d] Tryz.func141 rfl Tryz.ntmps141 rfl rfl ?_
  have hl := hb.lenb; have hcap := hb.cap; have hmax := hb.max
  have hlp : l.length = p.length + 1 + q.length := by have h9 := (cutF_some hcf).1; rw [h9, List.length_append, List.length_cons]; omega
  have S0 := St.start w0 noM
  refine T_seq fun K1 hK1 => ?_
  refine T_region ?_
  refine L_y (y_assign rfl) rfl ?_
  refine L_y (y_assign rfl) rfl ?_
  refine L_y (y_assign rfl) rfl ?_
  refine L_nil ?_
  refine hK1 _ _ ?_
  refine T_seq fun K2 hK2 => ?_
  refine T_seq fun K3 hK3 => ?_
  refine T_region ?_
  refine L_y (y_move rfl) rfl ?_
  refine L_y (y_move rfl) rfl ?_
  refine L_o (o_call Tryz.func170 rfl rfl (bidx1 a n c b2 d l x w0 (S0.rd hb) (S0.rd hs)) rfl rfl ?_)
  rintro e1 w1 ⟨v1, rfl, l1, rfl⟩
  refine ⟨_, rfl, ?_⟩
  have S1 := S0.like l1
  rw [idx_some hcf]
  refine L_y (y_assign rfl) rfl ?_
  refine L_nil ?_
  refine hK3 _ _ ?_
  refine T_seq fun K4 hK4 => ?_
  refine T_region ?_
  refine L_y (y_move rfl) rfl ?_
  refine L_y (y_geq rfl rfl) rfl ?_
  refine L_nil ?_
  refine hK4 _ _ ?_
  refine T_cond rfl (fun h12 => ?_) (fun h12 => ?_)
  ·
    refine T_seq fun K5 hK5 => ?_
    refine T_drawnL [(0, true), (1, true), (2, true), (3, true), (4, true), (5, true), (6, true), (7, true), (8, true), (9, true), (10, true), (11, true)] hmix (by kernel_rfl) fun w2 l2 => ?_
    have S2 := S1.like l2
    refine DL_y rfl (y_move rfl) rfl ?_
    refine DL_y rfl (y_move rfl) rfl ?_
    refine DL_y rfl (y_sliceH Tryz.underlying22 sz5 rfl rfl (Nt.mk rfl : Nt _ (p.length)) (by omega)) rfl ?_
    refine DL_y rfl (y_move rfl) rfl ?_
    refine DL_y rfl (y_move rfl) rfl ?_
    refine DL_y rfl (y_move rfl) rfl ?_
    refine DL_y rfl (y_len Tryz.underlying22 rfl) rfl ?_
    refine DL_y rfl (y_add rfl rfl (i64w (by omega))) rfl ?_
    refine DL_y rfl (y_sliceL Tryz.underlying22 sz5 rfl rfl (Nt.mk (by omega) : Nt _ (p.length + 1)) (by omega)) rfl ?_
    refine DL_y rfl (y_assign rfl) rfl ?_
    refine DL_y rfl (y_assign rfl) rfl ?_
    refine DL_y rfl (y_assign rfl) rfl ?_
    refine DL_nil ?_
    refine hK5 _ _ ?_
    refine T_ret ?_
    repeat (first | with_reducible refine up_then ?_ | with_reducible refine up_in ?_)
    refine ret3 rfl rfl rfl rfl ?_
    exact ⟨_, rfl, S2.like0, (bcutV_some hcf).symm⟩
  ·
    exact absurd (by omega) h12


set_option maxRecDepth 100000 in
theorem bcut0 (a : Addr) (n c b2 d : Nat) (l : List UInt8) (x : UInt8) (w0 : World) (hb : Rs w0 1 (some a) n c (bL l)) (hs : Rs w0 1 (some ⟨b2, 0, none⟩) 1 d (bL [x])) (hcf : cutF x l = none) :
    Calls Tryz.prog 141 #[.slice (some a) n c, .slice (some ⟨b2, 0, none⟩) 1 d] w0 fun e w' => ∃ u, e = .returned u ∧ Like w0 w' ∧ u = bcutV x a n c l := by
  refine enter1 (env := [(0, .slice (some a) n c), (1, .slice (some ⟨b2, 0, none⟩) 1 d)]) [.slice (some a) n c, .slice (some ⟨b2, 0, none⟩) 1 d] Tryz.func141 rfl Tryz.ntmps141 rfl rfl ?_
  have hl := hb.lenb; have hcap := hb.cap; have hmax := hb.max
  have S0 := St.start w0 noM
  refine T_seq fun K1 hK1 => ?_
  refine T_region ?_
  refine L_y (y_assign rfl) rfl ?_
  refine L_y (y_assign rfl) rfl ?_
  refine L_y (y_assign rfl) rfl ?_
  refine L_nil ?_
  refine hK1 _ _ ?_
  refine T_seq fun K2 hK2 => ?_
  refine T_seq fun K3 hK3 => ?_
  refine T_region ?_
  refine L_y (y_move rfl) rfl ?_
  refine L_y (y_move rfl) rfl ?_
  refine L_o (o_call Tryz.func170 rfl rfl (bidx1 a n c b2 d l x w0 (S0.rd hb) (S0.rd hs)) rfl rfl ?_)
  rintro e1 w1 ⟨v1, rfl, l1, rfl⟩
  refine ⟨_, rfl, ?_⟩
  have S1 := S0.like l1
  rw [idx_none hcf]
  refine L_y (y_assign rfl) rfl ?_
  refine L_nil ?_
  refine hK3 _ _ ?_
  refine T_seq fun K4 hK4 => ?_
  refine T_region ?_
  refine L_y (y_move rfl) rfl ?_
  refine L_y (y_geq rfl rfl) rfl ?_
  refine L_nil ?_
  refine hK4 _ _ ?_
  refine T_cond rfl (fun h12 => ?_) (fun h12 => ?_)
  ·
    omega
  ·
    refine T_skip ?_
    refine hK2 _ _ ?_
    refine T_seq fun K5 hK5 => ?_
    refine T_region ?_
    refine L_y (y_move rfl) rfl ?_
    refine L_y (y_assign rfl) rfl ?_
    refine L_y (y_assign rfl) rfl ?_
    refine L_y (y_assign rfl) rfl ?_
    refine L_nil ?_
    refine hK5 _ _ ?_
    refine T_ret ?_
    repeat (first | with_reducible refine up_then ?_ | with_reducible refine up_in ?_)
    refine ret3 rfl rfl rfl rfl ?_
    exact ⟨_, rfl, S1.like0, (bcutV_none hcf).symm⟩


theorem bcut (a : Addr) (n c b2 d : Nat) (l : List UInt8) (x : UInt8) (w0 : World) (hb : Rs w0 1 (some a) n c (bL l)) (hs : Rs w0 1 (some ⟨b2, 0, none⟩) 1 d (bL [x])) : Calls Tryz.prog 141 #[.slice (some a) n c, .slice (some ⟨b2, 0, none⟩) 1 d] w0 fun e w' => ∃ u, e = .returned u ∧ Like w0 w' ∧ u = bcutV x a n c l := by
  cases h : cutF x l with
  | none => exact bcut0 a n c b2 d l x w0 hb hs h
  | some pq => exact bcut1 a n c b2 d l x w0 hb hs pq.1 pq.2 h
end Go.Proofs.YtgaklngnfecdaaaGreat.Obj


/-
  make of elements of many cells.
-/
namespace Go.Proofs.YtgaklngnfecdaaaGreat.Zx
open Go.RowKit Zk
set_option linter.unusedVariables false
set_option linter.unusedSimpArgs false
section
variable {P : Program} {N : Nat} {Q : Exit → Env → World → Prop} {env : Env} {w w0 : World} {M : Nat → Prop} {rs : List Res} {K : Env → World → Prop} {d : Tmp} {ty : TypeId} {pos : String} {after : Array Edge} {g : Option (Nat × Bool)}
variable {dst : Option Tmp}
end
end Go.Proofs.YtgaklngnfecdaaaGreat.Zx


/-
  Results, one of them in a variable; a callee's state taken over whole.
-/
namespace Go.Proofs.YtgaklngnfecdaaaGreat.Zx
open Go.RowKit Zk
set_option linter.unusedVariables false
set_option linter.unusedSimpArgs false
section
variable {P : Program} {N : Nat} {Q : Exit → Env → World → Prop} {env : Env} {w w0 : World}
variable {S : World → Prop} {dst : Option Tmp} {ty : TypeId} {pos : String} {after : Array Edge} {gd : Option (Nat × Bool)}
end
end Go.Proofs.YtgaklngnfecdaaaGreat.Zx


/-
  '!=' on truth values; bytes turned.
-/
namespace Go.Proofs.YtgaklngnfecdaaaGreat.Zx
open Go.RowKit Zk
set_option linter.unusedVariables false
set_option linter.unusedSimpArgs false
section
variable {P : Program} {env : Env} {S : World → Prop} {dst : Option Tmp} {ty : TypeId} {pos : String} {after : Array Edge} {g : Option (Nat × Bool)}
end
theorem bL_setX (l : List UInt8) (k : Nat) (c : UInt8) : (bL l).set k (Value.int .u8 (c.toNat : Int)) = bL (l.set k c) := by
  unfold bL
  rw [List.map_set]
  rfl
end Go.Proofs.YtgaklngnfecdaaaGreat.Zx


/-
  Three results, the first in a variable.
-/
namespace Go.Proofs.YtgaklngnfecdaaaGreat.Zx
open Go.RowKit Zk
set_option linter.unusedVariables false
set_option linter.unusedSimpArgs false
section
variable {P : Program} {N : Nat} {Q : Exit → Env → World → Prop} {env : Env} {w w0 : World}
theorem retctt {fn : Func} {R : Ending → World → Prop} {p q r : Tmp} {lt b t : Nat} {cs : Array Value} {d : TypeDesc} {v u : Value} (hr : fn.results = #[.cell p lt, .tmp q, .tmp r]) (hp : look env p = some (.pointer (some ⟨b, 0, none⟩))) (hq : look env q = some v) (hq2 : look env r = some u) (hb : Blk w b t cs) (hd : P.underlying lt = some d) (hrow : d.isRow = true)
    (hsz : (P.info? lt).map (·.size) = some cs.size) (h : R (.returned (.tuple #[.agg cs, v, u])) w) (hd0 : dfs env = [] := by rfl) : bodyQ P fn R .ret env w :=
  ⟨hd0, _, fun N a ha => by rw [resB_tt hr a.tmps (ha.getD hp) hb d hd hrow hsz, ha.getD hq, ha.getD hq2], h⟩
end
end Go.Proofs.YtgaklngnfecdaaaGreat.Zx


/-
  An entry taken off bytes: laws.
-/
namespace Go.Proofs.YtgaklngnfecdaaaGreat.Obj
open Go.RowKit Zk Zx
open Oid (idf idf_len)
open Tre (nmOk EV enf enf_len mdOk chkE)
open Rev (cutF cutF_some cutF_none)
set_option linter.unusedVariables false
set_option linter.unusedSimpArgs false

theorem rs_tail {w : World} {A : Option Addr} {n c : Nat} {b : List UInt8} (k : Nat) (h : Rs w 1 A n c (bL b)) (h1 : k ≤ n) : Rs w 1 (cutA A c k 1) (n - k) (c - k) (bL (b.drop k)) := by
  have h2 := h.cutb (l := k) (u := n) h1 (Nat.le_refl _)
  rwa [List.take_of_length_le (by rw [List.length_drop, h.lenb]; omega)] at h2
theorem cutA_some (a : Addr) (c l size : Nat) : ∃ a2, cutA (some a) c l size = some a2 := by
  unfold cutA
  split
  · exact ⟨a, rfl⟩
  · exact ⟨_, rfl⟩
/-- An entry's cells. -/
def ef (nm : ByteArray) (md : Int) (id : List UInt8) : List Value := .string nm :: .int .i64 md :: bL id
theorem ef_en (y : EV) : enf y = ef y.nm y.md y.id := rfl
theorem ef_len (nm : ByteArray) (md : Int) {id : List UInt8} (h : id.length = 32) : (ef nm md id).length = 34 := by simp [ef, h]
theorem ef_one (nm : ByteArray) (md : Int) (id : List UInt8) : ∀ u ∈ ef nm md id, u.oneCell' = true := fun u hu => by
  rcases List.mem_cons.1 hu with rfl | hu
  · rfl
  · rcases List.mem_cons.1 hu with rfl | hu
    · rfl
    · exact bL_one _ u hu
theorem ef_whole (nm : ByteArray) (md : Int) {id : List UInt8} (h : id.length = 32) : ((ef nm md id).toArray.toList.drop 0).take 34 = ef nm md id ∧ (ef nm md id).length = 34 := ⟨by rw [List.drop_zero, List.toList_toArray]; exact List.take_of_length_le (by rw [ef_len nm md h]; omega), ef_len nm md h⟩
theorem ef_0 (nm : ByteArray) (md : Int) (id : List UInt8) : (ef nm md id).toArray[0]? = some (.string nm) := rfl
theorem ef_1 (nm : ByteArray) (md : Int) (id : List UInt8) : (ef nm md id).toArray[1]? = some (.int .i64 md) := rfl
theorem ef_set0 {nm nm' : ByteArray} {md : Int} {id : List UInt8} : (ef nm md id).toArray.setIfInBounds 0 (.string nm') = (ef nm' md id).toArray := by rw [List.setIfInBounds_toArray]; rfl
theorem ef_set1 {nm : ByteArray} {md md' : Int} {id : List UInt8} : (ef nm md id).toArray.setIfInBounds 1 (.int .i64 md') = (ef nm md' id).toArray := by rw [List.setIfInBounds_toArray]; rfl
theorem ef_cp {nm : ByteArray} {md : Int} {id z : List UInt8} (h : id.length = 32) (hz : z.length = 32) : ((ef nm md id).toArray.toList.take 2 ++ bL z ++ (ef nm md id).toArray.toList.drop (2 + (bL z).length)).toArray = (ef nm md z).toArray := by
  rw [List.drop_of_length_le (by rw [List.toList_toArray, ef_len nm md h, length_bL]; omega), List.append_nil]
  rfl
def zB : List UInt8 := List.replicate 32 0
theorem zB_len : zB.length = 32 := rfl
/-- An entry taken off bytes: an error, a name, what is left. -/
def oneC : List UInt8 → Int × List UInt8 × List UInt8
  | [] => (16, [], [])
  | m :: r => if ¬ ((m.toNat : Int) - 48 = 1 ∨ (m.toNat : Int) - 48 = 2 ∨ (m.toNat : Int) - 48 = 3) then (16, [], []) else match r with
    | [] => (10, [], [])
    | s :: t => if s ≠ 32 then (16, [], []) else match cutF 0 t with
      | none => if nmOk ⟨t.toArray⟩ = false then (15, [], []) else (10, [], [])
      | some (p, q) => if nmOk ⟨p.toArray⟩ = false then (15, [], []) else if q.length < 32 then (10, [], []) else (0, p, q.drop 32)
/-- What one answers. -/
def OneV (a : Addr) (n c : Nat) (b : List UInt8) (u : Value) : Prop := ∃ (nm : ByteArray) (md : Int) (id : List UInt8) (A : Option Addr) (k cp : Nat), id.length = 32 ∧ u = .tuple #[.agg (ef nm md id).toArray, .slice A k cp, .int .i64 (oneC b).1] ∧
  ((oneC b).1 = 0 → nm = ⟨(oneC b).2.1.toArray⟩ ∧ md = ((b.getD 0 0).toNat : Int) - 48 ∧ ∀ W, Rs W 1 (some a) n c (bL b) → Rs W 1 A k cp (bL (oneC b).2.2))
theorem OneV.bad {a : Addr} {n c : Nat} {b : List UInt8} {nm : ByteArray} {md e : Int} {id : List UInt8} (hi : id.length = 32) (he : (oneC b).1 = e) (h0 : e ≠ 0) : OneV a n c b (.tuple #[.agg (ef nm md id).toArray, .slice none 0 0, .int .i64 e]) :=
  ⟨nm, md, id, none, 0, 0, hi, by rw [he], fun h => absurd (he.symm.trans h) h0⟩
section
variable {m s : UInt8} {t p q : List UInt8}
abbrev mok (m : UInt8) : Prop := (m.toNat : Int) - 48 = 1 ∨ (m.toNat : Int) - 48 = 2 ∨ (m.toNat : Int) - 48 = 3
theorem one_16 {r : List UInt8} (h : ¬ mok m) : (oneC (m :: r)).1 = 16 := by unfold oneC; simp only []; rw [if_pos h]
theorem one_10 (h : mok m) : (oneC [m]).1 = 10 := by unfold oneC; simp only []; rw [if_neg (fun q => q h)]
theorem one_16b (h : mok m) (hs : s ≠ 32) : (oneC (m :: s :: t)).1 = 16 := by unfold oneC; simp only []; rw [if_neg (fun q => q h)]; (try simp only []); rw [if_pos hs]
theorem one_n15 (h : mok m) (hc : cutF 0 t = none) (hn : nmOk ⟨t.toArray⟩ = false) : (oneC (m :: 32 :: t)).1 = 15 := by unfold oneC; simp only []; rw [if_neg (fun q => q h)]; (try simp only []); rw [if_neg (fun q => q rfl), hc]; (try simp only []); rw [if_pos hn]
theorem one_n10 (h : mok m) (hc : cutF 0 t = none) (hn : ¬ nmOk ⟨t.toArray⟩ = false) : (oneC (m :: 32 :: t)).1 = 10 := by unfold oneC; simp only []; rw [if_neg (fun q => q h)]; (try simp only []); rw [if_neg (fun q => q rfl), hc]; (try simp only []); rw [if_neg hn]
theorem one_s15 (h : mok m) (hc : cutF 0 t = some (p, q)) (hn : nmOk ⟨p.toArray⟩ = false) : (oneC (m :: 32 :: t)).1 = 15 := by unfold oneC; simp only []; rw [if_neg (fun q => q h)]; (try simp only []); rw [if_neg (fun q => q rfl), hc]; (try simp only []); rw [if_pos hn]
theorem one_s10 (h : mok m) (hc : cutF 0 t = some (p, q)) (hn : ¬ nmOk ⟨p.toArray⟩ = false) (hq : q.length < 32) : (oneC (m :: 32 :: t)).1 = 10 := by unfold oneC; simp only []; rw [if_neg (fun q => q h)]; (try simp only []); rw [if_neg (fun q => q rfl), hc]; (try simp only []); rw [if_neg hn, if_pos hq]
theorem one_s0 (h : mok m) (hc : cutF 0 t = some (p, q)) (hn : ¬ nmOk ⟨p.toArray⟩ = false) (hq : ¬ q.length < 32) : oneC (m :: 32 :: t) = (0, p, q.drop 32) := by unfold oneC; simp only []; rw [if_neg (fun q => q h)]; (try simp only []); rw [if_neg (fun q => q rfl), hc]; (try simp only []); rw [if_neg hn, if_neg hq]
end
theorem one_less {b : List UInt8} (h : (oneC b).1 = 0) : (oneC b).2.2.length + 34 ≤ b.length := by
  unfold oneC at h ⊢
  match b with
  | [] => cases h
  | m :: r =>
    simp only [] at h ⊢
    split at h
    · cases h
    · rename_i h1
      rw [if_neg h1]
      match r with
      | [] => cases h
      | s :: t =>
        simp only [] at h ⊢
        split at h
        · cases h
        · rename_i h2
          rw [if_neg h2]
          cases hc : cutF 0 t with
          | none =>
            rw [hc] at h
            simp only [] at h
            split at h <;> cases h
          | some pq =>
            obtain ⟨p, q⟩ := pq
            rw [hc] at h
            simp only [] at h ⊢
            split at h
            · cases h
            · rename_i h3
              rw [if_neg h3]
              split at h
              · cases h
              · rename_i h4
                rw [if_neg h4]
                have h9 := (cutF_some hc).1
                simp only [List.length_cons, List.length_drop]
                rw [h9, List.length_append, List.length_cons]
                omega
end Go.Proofs.YtgaklngnfecdaaaGreat.Obj
