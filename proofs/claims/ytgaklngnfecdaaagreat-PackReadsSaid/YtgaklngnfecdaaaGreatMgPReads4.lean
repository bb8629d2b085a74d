import Derived.Test.YtgaklngnfecdaaaGreatMgPReads3
import Derived.Test.YtgaklngnfecdaaaGreatMgPReads2
import Derived.Maps.Views
import Derived.StringKeys
import Derived.Shelf.Bytes.SlIndexAt
import Derived.Laws.Small
set_option linter.unusedSimpArgs false
set_option linter.unusedVariables false
set_option maxRecDepth 100000
namespace Go.Proofs.YtgaklngnfecdaaaGreat.Rev
open Go.RowKit Zk Zx
open Oid (idf hexL idf_len readR)
open Tre (nmOk)
def parsR : Nat → List UInt8 → Option (List Oid.Id × List UInt8)
  | 0, s => some ([], s)
  | k + 1, s => if preP s (wParent ++ [32]) then (match idR wParent s with
      | none => none
      | some (p, b) => (parsR k b).map fun q => (p :: q.1, q.2)) else some ([], s)
theorem parsR_end {m : Nat} {s : List UInt8} (h : ¬ preP s (wParent ++ [32])) : parsR m s = some ([], s) := by
  cases m with
  | zero => rfl
  | succ m => rw [parsR, if_neg h]
theorem parsR_bad {m : Nat} {s : List UInt8} (h : preP s (wParent ++ [32])) (hi : idR wParent s = none) : parsR (m + 1) s = none := by rw [parsR, if_pos h, hi]
theorem parsR_step {m : Nat} {s b : List UInt8} {p : Oid.Id} (h : preP s (wParent ++ [32])) (hi : idR wParent s = some (p, b)) : parsR (m + 1) s = (parsR m b).map fun q => (p :: q.1, q.2) := by rw [parsR, if_pos h, hi]
theorem idR_len {w s b : List UInt8} {p : Oid.Id} (h : idR w s = some (p, b)) : b.length < s.length := by
  unfold idR at h
  split at h
  · cases h
  · rename_i a b' hl
    have := lineR_len hl
    split at h
    · cases h
      omega
    · cases h
theorem numbR_len {w s b : List UInt8} {p : Nat} (h : numbR w s = some (p, b)) : b.length < s.length ∧ p < 1000000000000000 := by
  unfold numbR at h
  split at h
  · cases h
  · rename_i a b' hl
    have := lineR_len hl
    split at h
    · rename_i hn
      cases h
      refine ⟨by omega, ?_⟩
      unfold numOk at hn
      rw [Bool.and_eq_true, decide_eq_true_eq] at hn
      have h1 := numV_lt a hn.2
      have h2 : 10 ^ a.length ≤ 10 ^ 15 := Nat.pow_le_pow_right (by omega) hn.1.2.1
      have h3 : (10 : Nat) ^ 15 = 1000000000000000 := by decide
      omega
    · cases h
structure CmL where
  tr : Oid.Id
  ps : List Oid.Id
  au : List UInt8
  tm : Nat
  tx : List UInt8
def cmOf (y : CmL) (A : Option Addr) (n c : Nat) : Cm := ⟨y.tr, A, n, c, y.ps, ⟨y.au.toArray⟩, (y.tm : Int), ⟨y.tx.toArray⟩⟩
def getR (s : List UInt8) : Option CmL :=
  (idR wTree s).bind fun t => (parsR (s.length + 1) t.2).bind fun p => (lineR wAuthor p.2).bind fun a => (numbR wTime a.2).bind fun n => (textR n.2).map fun x => ⟨t.1, p.1, a.1, n.1, x⟩
theorem g1 {s : List UInt8} (h : idR wTree s = none) : getR s = none := by unfold getR; rw [h]; rfl
theorem cmf_sz (x : Cm) : (cmf x).toArray.size = 36 := by rw [List.size_toArray, cmf_len]
theorem st_tree (x : Cm) (t : Oid.Id) : ((cmf x).toArray.toList.take 0 ++ (idf t).toArray.toList ++ (cmf x).toArray.toList.drop (0 + (idf t).toArray.size)).toArray = (cmf { x with tr := t }).toArray := by
  simp only [List.take_zero, List.nil_append, List.size_toArray, idf_len, Nat.zero_add]
  congr 1
  show idf t ++ (cmf x).drop 32 = _
  unfold cmf
  rw [List.drop_append_of_le_length (by rw [idf_len]; omega), List.drop_of_length_le (by rw [idf_len]; omega), List.nil_append]
theorem st_at (x : Cm) (k : Nat) (v : Value) (hk : k < 4) : (cmf x).toArray.setIfInBounds (32 + k) v = (idf x.tr ++ [Value.slice x.A x.n x.c, .string x.au, .int .i64 x.tm, .string x.tx].set k v).toArray := by
  rw [List.setIfInBounds_toArray]
  congr 1
  unfold cmf
  rw [List.set_append_right _ _ (by rw [idf_len]; omega), idf_len, show 32 + k - 32 = k by omega]
theorem st32 (x : Cm) (A : Option Addr) (n c : Nat) : (cmf x).toArray.setIfInBounds 32 (.slice A n c) = (cmf { x with A := A, n := n, c := c }).toArray := st_at x 0 _ (by omega)
theorem st33 (x : Cm) (v : ByteArray) : (cmf x).toArray.setIfInBounds 33 (.string v) = (cmf { x with au := v }).toArray := st_at x 1 _ (by omega)
theorem st34 (x : Cm) (v : Int) : (cmf x).toArray.setIfInBounds 34 (.int .i64 v) = (cmf { x with tm := v }).toArray := st_at x 2 _ (by omega)
theorem st35 (x : Cm) (v : ByteArray) : (cmf x).toArray.setIfInBounds 35 (.string v) = (cmf { x with tx := v }).toArray := st_at x 3 _ (by omega)
theorem st_pan {w0 w w' : World} {M : Nat → Prop} {r b c b' c' : Res} (S : St w0 M [r, b, c] w) (T : Turned w w' (both b c) (both b' c')) : St w0 M [r, both b' c'] w' := (St.join2 (rs := [r]) S).turn 1 rfl T
theorem g2 {s s1 : List UInt8} {t : Oid.Id} (h : idR wTree s = some (t, s1)) (hp : parsR (s.length + 1) s1 = none) : getR s = none := by unfold getR; rw [h]; simp [hp]
theorem g3 {s s1 s2 : List UInt8} {t : Oid.Id} {ps : List Oid.Id} (h : idR wTree s = some (t, s1)) (hp : parsR (s.length + 1) s1 = some (ps, s2)) (ha : lineR wAuthor s2 = none) : getR s = none := by unfold getR; rw [h]; simp [hp, ha]
theorem g4 {s s1 s2 s3 a : List UInt8} {t : Oid.Id} {ps : List Oid.Id} (h : idR wTree s = some (t, s1)) (hp : parsR (s.length + 1) s1 = some (ps, s2)) (ha : lineR wAuthor s2 = some (a, s3)) (hn : numbR wTime s3 = none) : getR s = none := by unfold getR; rw [h]; simp [hp, ha, hn]
theorem g5 {s s1 s2 s3 s4 a : List UInt8} {t : Oid.Id} {ps : List Oid.Id} {n : Nat} (h : idR wTree s = some (t, s1)) (hp : parsR (s.length + 1) s1 = some (ps, s2)) (ha : lineR wAuthor s2 = some (a, s3)) (hn : numbR wTime s3 = some (n, s4)) (hx : textR s4 = none) : getR s = none := by unfold getR; rw [h]; simp [hp, ha, hn, hx]
theorem g6 {s s1 s2 s3 s4 a x : List UInt8} {t : Oid.Id} {ps : List Oid.Id} {n : Nat} (h : idR wTree s = some (t, s1)) (hp : parsR (s.length + 1) s1 = some (ps, s2)) (ha : lineR wAuthor s2 = some (a, s3)) (hn : numbR wTime s3 = some (n, s4)) (hx : textR s4 = some x) : getR s = some ⟨t, ps, a, n, x⟩ := by unfold getR; rw [h]; simp [hp, ha, hn, hx]
theorem map_step {o : Option (List Oid.Id × List UInt8)} (ps : List Oid.Id) (p : Oid.Id) : (o.map fun q => (p :: q.1, q.2)).map (fun q => (ps ++ q.1, q.2)) = o.map fun q => ((ps ++ [p]) ++ q.1, q.2) := by cases o <;> simp
theorem St.ownM {w0 w : World} {M : Nat → Prop} {rs : List Res} (S : Zx.St w0 M rs w) (j k : Nat) {r : Res} (hj : rs[j]? = some r) (hjk : Nat.beq j k = false) (hM : ∀ i, M i → r.dom i) {e size n c : Nat} {A : Option Addr} {xs : List Value} (hk : rs[k]? = some (Zx.row e size A n c xs)) : w.ownsRow w0.heap.size e size (.slice A n c) n xs := by
  have h : w.ownsRow 0 e size (.slice A n c) n xs := S.get k hk
  refine ⟨h.1, h.2.imp id fun ⟨g, cap, cur, h1, _, h3⟩ => ⟨g, cap, cur, h1, ?_, h3⟩⟩
  have hd : (Zx.row e size A n c xs).dom g := by simp only [Zx.row]; rw [h1]; rfl
  rcases ((S.res _ (List.mem_of_getElem? hk)).2 g hd).2 with h | h
  · exact h
  · exact (St.apart_ S j k hj hk hjk g (hM g h) hd).elim
theorem lineR_len2 {w s a b : List UInt8} (h : lineR w s = some (a, b)) : b.length < s.length := by have := lineR_len h; omega
theorem readr (g : Nat) (s : List UInt8) (w0 : World) (hw : (rdR g s).holds w0) (hl : s.length ≤ 100000) :
    Calls Tryz.prog 108 #[.pointer (some ⟨g, 0, none⟩)] w0 fun e w' => ∃ u, e = .returned u ∧ ∃ s', Turned w0 w' (rdR g s) (rdR g s') ∧ ((getR s = none ∧ u = .tuple #[.agg (cmf zCm).toArray, .int .i64 12]) ∨ ∃ y A n c, getR s = some y ∧ n = y.ps.length ∧ Fr w0 w' 32 A n c (y.ps.flatMap idf) ∧ u = .tuple #[.agg (cmf (cmOf y A n c)).toArray, .int .i64 0]) := by
  refine enterD1 (env := [(0, .pointer (some ⟨g, 0, none⟩))]) [.pointer (some ⟨g, 0, none⟩)] Tryz.func108 rfl Tryz.ntmps108 rfl rfl ?_
  have S0 := St.borrow1 (rdR g s) hw (rd_lt hw)
  refine T_seq fun K1 hK1 => ?_
  refine T_region ?_
  refine L_o (o_alloc zz83 S0 rfl fun b1 w1 hb1 S1 => ?_)
  refine L_o (o_alloc zz24 S1 rfl fun b2 w2 hb2 S2 => ?_)
  have S3 : Zx.St w0 (rdR g s).dom [rdR g s, blk b1 83 (cmf zCm).toArray, blk b2 24 #[Value.int .i64 0]] w2 := S2.cast (by kernel_rfl)
  have hne : b1 ≠ b2 := fun e => St.apart_ S3 1 2 rfl rfl rfl b1 rfl e
  refine L_nil ?_
  refine hK1 _ _ ?_
  refine T_seq fun K2 hK2 => ?_
  refine T_region ?_
  refine L_y (y_makeFunc rfl rfl) rfl ?_
  refine L_deferV rfl ?_
  refine L_nil ?_
  refine hK2 _ _ ?_
  refine T_seq fun K3 hK3 => ?_
  refine T_region ?_
  refine L_y (y_move rfl) rfl ?_
  refine L_o (o_callP Tryz.func145 rfl rfl (idr g s wTree w2 (S3.get 0 rfl) (by decide) (by omega)) rfl rfl ?_)
  rintro e4 w4 (⟨rfl, s9, T4, hno⟩ | ⟨v4, rfl, t, s1, hid, T4, rfl⟩)
  · exact .inr ⟨_, rfl, read_pan rfl rfl rfl ((S3.turn 0 rfl T4).blk 1 rfl) (cmf_sz _) ((S3.turn 0 rfl T4).blk 2 rfl) hne (fun w' T' => ⟨_, rfl, _, (st_pan ((S3.turn 0 rfl T4).sel [0, 1, 2] (by decide)) T').turned1 0 rfl, .inl ⟨g1 hno, rfl⟩⟩)⟩
  refine .inl ⟨_, rfl, ?_⟩
  have S4 := S3.turn 0 rfl T4
  have hl1 := idR_len hid
  refine L_y (y_fieldA 0 Tryz.underlying83 rfl sz41 rfl rfl rfl) rfl ?_
  refine L_o (o_stR S4 1 rfl rfl rfl (by rw [List.size_toArray, idf_len]; exact sz41) (by rw [List.size_toArray, idf_len, cmf_sz]; omega) (fun u hu => bL_one _ u (by rw [List.toList_toArray] at hu; exact hu)) fun w5 S5 => ?_)
  have S6 := S5.blkc 1 rfl (st_tree _ _)
  refine L_nil ?_
  refine hK3 _ _ ?_
  refine T_seq fun K4 hK4 => ?_
  refine T_block ?_
  refine T_loop6 [(0, _), (2, _), (3, _), (1000000, .agg #[.agg #[.int .i64 144, .agg #[], .agg #[.pointer (some ⟨b1, 0, none⟩), .pointer (some ⟨b2, 0, none⟩)]]])] (fun (m : Nat) (s2 : List UInt8) (ps : List Oid.Id) (A : Option Addr) (n : Nat) (c : Nat) => [(1000000, .agg #[.agg #[.int .i64 144, .agg #[], .agg #[.pointer (some ⟨b1, 0, none⟩), .pointer (some ⟨b2, 0, none⟩)]]])]) (fun (m : Nat) (s2 : List UInt8) (ps : List Oid.Id) (A : Option Addr) (n : Nat) (c : Nat) => m) (fun (m : Nat) (s2 : List UInt8) (ps : List Oid.Id) (A : Option Addr) (n : Nat) (c : Nat) (w : World) => (n = ps.length ∧ s2.length < m ∧ ps.length + s2.length ≤ 100000 ∧ parsR (s.length + 1) s1 = (parsR m s2).map fun q => (ps ++ q.1, q.2)) ∧ Zx.St w0 (rdR g s).dom [rdR g s2, blk b1 83 (cmf (⟨t, A, n, c, [], ⟨#[]⟩, 0, ⟨#[]⟩⟩ : Cm)).toArray, blk b2 24 #[Value.int .i64 0], row 41 32 A n c (ps.flatMap idf)] w) (s.length + 1) s1 [] none 0 0 (Sub.dfr rfl) (Sub.cons rfl rfl (Sub.cons rfl rfl (Sub.cons rfl rfl (Sub.dfr rfl)))) ?_ ?_
  ·
    have S80 := S6.nilrow 41 32
    exact ⟨⟨rfl, by omega, by simp; omega, by cases parsR (s.length + 1) s1 <;> rfl⟩, S80⟩
  ·
    intro m s2 ps A n c w7 hrel
    obtain ⟨⟨hn, hm, hb, hps⟩, S7⟩ := hrel
    refine T_seq fun K5 hK5 => ?_
    refine T_seq fun K6 hK6 => ?_
    refine T_region ?_
    refine L_y (y_move rfl) rfl ?_
    refine L_o (o_call Tryz.func146 rfl rfl (next g s2 wParent w7 (S7.get 0 rfl) (by decide)) rfl rfl ?_)
    rintro e8 w8 ⟨v8, rfl, T8, rfl⟩
    refine ⟨_, rfl, ?_⟩
    have S8 := S7.turn 0 rfl T8
    refine L_nil ?_
    refine hK6 _ _ ?_
    refine T_cond rfl (fun h9 => ?_) (fun h9 => ?_)
    ·
      refine T_skip ?_
      refine hK5 _ _ ?_
      refine T_block ?_
      obtain ⟨m, rfl⟩ : ∃ k, m = k + 1 := ⟨m - 1, by omega⟩
      refine T_zed [0, 1, 2, 3, 4] 5 [(0, 1), (1, 1), (2, 1), (3, 2), (4, 2), (5, 3), (6, 3), (7, 3)] hmix (by kernel_rfl) fun w9 l9 => ?_
      have S9 := S8.like l9
      refine ZA_B (fun w => Blk w b1 83 (cmf (⟨t, A, n, c, [], ⟨#[]⟩, 0, ⟨#[]⟩⟩ : Cm)).toArray) (S9.blk 1 rfl) ?_
      refine ZB_y rfl (y_fieldA 32 Tryz.underlying83 rfl sz81 rfl rfl rfl) rfl ?_
      refine ZB_y rfl (y_of fun w hw => y_ldc Tryz.underlying81 rfl rfl ((hw.cell _).trans (cm32 _))) rfl ?_
      refine ZB_y rfl (y_move rfl) rfl ?_
      refine ZB_o rfl (o_callP Tryz.func145 rfl rfl (idr g s2 wParent w9 (S9.get 0 rfl) (by decide) (by omega)) rfl rfl ?_)
      rintro e10 w10 (⟨rfl, s9, T10, hno⟩ | ⟨v10, rfl, p, b4, hid4, T10, rfl⟩)
      · exact .inr ⟨_, rfl, read_pan rfl rfl rfl ((S9.turn 0 rfl T10).blk 1 rfl) (cmf_sz _) ((S9.turn 0 rfl T10).blk 2 rfl) hne (fun w' T' => ⟨_, rfl, _, (st_pan ((S9.turn 0 rfl T10).sel [0, 1, 2] (by decide)) T').turned1 0 rfl, .inl ⟨g2 hid (by rw [hps, parsR_bad h9 hno]; rfl), rfl⟩⟩)⟩
      refine .inl ⟨_, rfl, ?_⟩
      have S10 := S9.turn 0 rfl T10
      have hl4 := idR_len hid4
      refine ⟨(S10.blk 1 rfl), ?_⟩
      refine ZB_o rfl (o_bsl (idf p) te81 zz41 S10 rfl rfl rfl (by simp [Value.cells, idf_len]) (by simp [Value.cells]) rfl rfl rfl fun b11 w11 S11 => ?_)
      refine ⟨(S11.blk 1 rfl), ?_⟩
      refine ZB_c rfl (o_app te81 S11 3 rfl rfl rfl (by first | exact S11.row 0 rfl | exact S11.row 4 rfl) (fun u hu => bL_one _ u hu) rfl (by omega) (by omega) fun A12 c12 w12 S12 => ?_)
      have S12d := S12.drop (rs' := [_, _, _, _]) (.cons_cons _ (.cons_cons _ (.cons_cons _ (.cons_cons _ (.cons _ (.refl _))))))
      refine ZA_oy rfl (y_fieldA 32 Tryz.underlying83 rfl sz81 rfl rfl rfl) rfl ?_
      refine ZA_o rfl (o_st1 S12d 1 rfl rfl rfl rfl sz81 (by rw [cmf_sz]; omega) fun w13 S13 => ?_)
      have S14 := S13.blkc 1 rfl (st32 _ _ _ _)
      refine ZA_nil ?_
      have S9 := S14.rowc 3 rfl (n' := n + 1) (xs' := (ps ++ [p]).flatMap idf) rfl (by rw [List.flatMap_append]; simp; rfl)
      refine ⟨m, b4, ps ++ [p], _, _, _, by omega, ⟨⟨by rw [List.length_append, hn]; rfl, by omega, by rw [List.length_append]; simp only [List.length_cons, List.length_nil]; omega, by rw [hps, parsR_step h9 hid4, map_step]⟩, S9⟩, ?_⟩
      exact (Sub.app (Sub.dfr rfl) (Sub.cons rfl rfl (Sub.cons rfl rfl (Sub.cons rfl rfl (Sub.dfr rfl)))))
    ·
      have hp2 : parsR (s.length + 1) s1 = some (ps, s2) := by rw [hps, parsR_end h9]; simp
      refine T_exit ?_
      refine hK4 _ _ ?_
      refine T_seq fun K7 hK7 => ?_
      refine T_region ?_
      refine L_y (y_move rfl) rfl ?_
      refine L_o (o_callP Tryz.func147 rfl rfl (take g s2 wAuthor w8 (S8.get 0 rfl) (by decide) (by omega)) rfl rfl ?_)
      rintro e15 w15 (⟨rfl, T15, hno⟩ | ⟨v15, rfl, au, s3, hau, T15, rfl⟩)
      · exact .inr ⟨_, rfl, read_pan rfl rfl rfl ((S8.turn 0 rfl T15).blk 1 rfl) (cmf_sz _) ((S8.turn 0 rfl T15).blk 2 rfl) hne (fun w' T' => ⟨_, rfl, _, (st_pan ((S8.turn 0 rfl T15).sel [0, 1, 2] (by decide)) T').turned1 0 rfl, .inl ⟨g3 hid hp2 hno, rfl⟩⟩)⟩
      refine .inl ⟨_, rfl, ?_⟩
      have S15 := S8.turn 0 rfl T15
      have hl5 := lineR_len2 hau
      refine L_y (y_fieldA 33 Tryz.underlying83 rfl sz9 rfl rfl rfl) rfl ?_
      refine L_o (o_st1 S15 1 rfl rfl rfl rfl sz9 (by rw [cmf_sz]; omega) fun w16 S16 => ?_)
      have S17 := S16.blkc 1 rfl (st33 _ _)
      refine L_nil ?_
      refine hK7 _ _ ?_
      refine T_seq fun K8 hK8 => ?_
      refine T_region ?_
      refine L_y (y_move rfl) rfl ?_
      refine L_o (o_callP Tryz.func148 rfl rfl (numb g s3 wTime w16 (S17.get 0 rfl) (by decide) (by omega)) rfl rfl ?_)
      rintro e18 w18 (⟨rfl, s9, T18, hno⟩ | ⟨v18, rfl, tm, s4, htm, T18, rfl⟩)
      · exact .inr ⟨_, rfl, read_pan rfl rfl rfl ((S17.turn 0 rfl T18).blk 1 rfl) (cmf_sz _) ((S17.turn 0 rfl T18).blk 2 rfl) hne (fun w' T' => ⟨_, rfl, _, (st_pan ((S17.turn 0 rfl T18).sel [0, 1, 2] (by decide)) T').turned1 0 rfl, .inl ⟨g4 hid hp2 hau hno, rfl⟩⟩)⟩
      refine .inl ⟨_, rfl, ?_⟩
      have S18 := S17.turn 0 rfl T18
      have hl6 := (numbR_len htm).1
      refine L_y (y_fieldA 34 Tryz.underlying83 rfl sz3 rfl rfl rfl) rfl ?_
      refine L_o (o_st1 S18 1 rfl rfl rfl rfl sz3 (by rw [cmf_sz]; omega) fun w19 S19 => ?_)
      have S20 := S19.blkc 1 rfl (st34 _ _)
      refine L_nil ?_
      refine hK8 _ _ ?_
      refine T_seq fun K9 hK9 => ?_
      refine T_region ?_
      refine L_y (y_move rfl) rfl ?_
      refine L_o (o_callP Tryz.func149 rfl rfl (text_ g s4 w19 (S20.get 0 rfl)) rfl rfl ?_)
      rintro e21 w21 (⟨rfl, T21, hno⟩ | ⟨v21, rfl, tx, htx, T21, rfl⟩)
      · exact .inr ⟨_, rfl, read_pan rfl rfl rfl ((S20.turn 0 rfl T21).blk 1 rfl) (cmf_sz _) ((S20.turn 0 rfl T21).blk 2 rfl) hne (fun w' T' => ⟨_, rfl, _, (st_pan ((S20.turn 0 rfl T21).sel [0, 1, 2] (by decide)) T').turned1 0 rfl, .inl ⟨g5 hid hp2 hau htm hno, rfl⟩⟩)⟩
      refine .inl ⟨_, rfl, ?_⟩
      have S21 := S20.turn 0 rfl T21
      refine L_y (y_fieldA 35 Tryz.underlying83 rfl sz9 rfl rfl rfl) rfl ?_
      refine L_o (o_st1 S21 1 rfl rfl rfl rfl sz9 (by rw [cmf_sz]; omega) fun w22 S22 => ?_)
      have S23 := S22.blkc 1 rfl (st35 _ _)
      refine L_nil ?_
      refine hK9 _ _ ?_
      refine T_seq fun K10 hK10 => ?_
      refine T_region ?_
      refine L_y (y_ldW Tryz.underlying83 rfl sz83 rfl (S23.blk 1 rfl) (cm_whole _)) rfl ?_
      refine L_o (o_stW S23 1 rfl rfl rfl (by rw [cmf_sz]; exact sz83) (by rw [cmf_sz]) (fun u hu => cmf_one _ u (by rw [List.toList_toArray] at hu; exact hu)) fun w24 S24 => ?_)
      refine L_o (o_st1 S24 2 rfl rfl rfl rfl sz24 (by simp; done) fun w25 S25 => ?_)
      refine L_nil ?_
      refine hK10 _ _ ?_
      refine T_ret ?_
      refine ur ?_
      refine read_ret rfl rfl rfl (S25.blk 1 rfl) (cmf_sz _) (S25.blk 2 rfl) ?_
      intro w' l'
      exact ⟨_, rfl, _, (S25.like l').turned1 0 rfl, .inr ⟨⟨t, ps, au, tm, tx⟩, A, n, c, g6 hid hp2 hau htm htx, hn, Fr.of_own (St.ownM (S25.like l') 0 3 rfl rfl (fun i h => h) rfl), rfl⟩⟩
end Go.Proofs.YtgaklngnfecdaaaGreat.Rev
namespace Go.Proofs.YtgaklngnfecdaaaGreat.Rev
open Go.RowKit Zk Zx
open Oid (idf hexL idf_len readR)
open Tre (nmOk)
def zL : CmL := ⟨⟨List.replicate 32 0, rfl⟩, [], [], 0, []⟩
def cmO (y : CmL) : Cm := cmOf y none y.ps.length 0
def rval (s : List UInt8) : CmL := (getR s).getD zL
def rcode (s : List UInt8) : Int := if (getR s).isSome then 0 else 12
theorem zL_cm : cmOf zL none 0 0 = zCm := by kernel_rfl
theorem fr_nil (w0 w : World) (size : Nat) : Fr w0 w size none 0 0 [] := ⟨Rs.nil w size, fun ad h => absurd h (by omega)⟩
theorem St.newF {w0 w w' : World} {M : Nat → Prop} {rs : List Res} (S : Zx.St w0 M rs w) (k : Nat) {r r' : Res} (hk : rs[k]? = some r) (h : Turned w w' r r') (hdom : ∀ i, r'.dom i → r.dom i) {size n c : Nat} {A : Option Addr} {xs : List Value} (hf : Fr w w' size A n c xs) : Zx.St w0 M (rs.set k r' ++ [fixed size A n c xs]) w' :=
  St.newT S k hk h hdom hf.1 fun i ⟨ad, hn, hA, hi⟩ => by
    subst hi
    obtain ⟨ad', hA', hb, _⟩ := hf.1.rd.2 hn
    rw [hA] at hA'
    cases hA'
    exact ⟨hf.2 ad hn hA, hb⟩
def gcode (s : List UInt8) : Int := match getR s with
  | none => 12
  | some y => chk (cmO y)
def gval (s : List UInt8) : CmL := match getR s with
  | none => zL
  | some y => if chk (cmO y) = 0 then y else zL
theorem readr' (g : Nat) (s : List UInt8) (w0 : World) (hw : (rdR g s).holds w0) (hl : s.length ≤ 100000) :
    Calls Tryz.prog 108 #[.pointer (some ⟨g, 0, none⟩)] w0 fun e w' => ∃ u, e = .returned u ∧ ∃ s' A c, Turned w0 w' (rdR g s) (rdR g s') ∧ Fr w0 w' 32 A (rval s).ps.length c ((rval s).ps.flatMap idf) ∧ u = .tuple #[.agg (cmf (cmOf (rval s) A (rval s).ps.length c)).toArray, .int .i64 (rcode s)] :=
  (readr g s w0 hw hl).mono fun e w' ⟨u, he, s', T, h⟩ => ⟨u, he, by
    rcases h with ⟨h1, h2⟩ | ⟨y, A, n, c, h1, h2, h3, h4⟩
    · refine ⟨s', none, 0, T, ?_⟩
      rw [show rval s = zL by rw [rval, h1]; rfl, show rcode s = 12 by rw [rcode, h1]; rfl]
      exact ⟨fr_nil _ _ _, by rw [h2]; exact congrArg (fun x => Value.tuple #[.agg (cmf x).toArray, .int .i64 12]) zL_cm.symm⟩
    · refine ⟨s', A, c, T, ?_⟩
      rw [show rval s = y by rw [rval, h1]; rfl, show rcode s = 0 by rw [rcode, h1]; rfl]
      subst h2
      exact ⟨h3, h4⟩⟩
theorem rcode_0 {s : List UInt8} (h : rcode s = 0) : getR s = some (rval s) := by
  unfold rcode at h
  unfold rval
  cases e : getR s with
  | none => rw [e] at h; cases h
  | some y => rfl
theorem rcode_n {s : List UInt8} (h : ¬ rcode s = 0) : getR s = none ∧ rcode s = 12 := by
  unfold rcode at h ⊢
  cases e : getR s with
  | none => exact ⟨rfl, rfl⟩
  | some y => rw [e] at h; exact absurd rfl h
theorem go_some {s : List UInt8} {y : CmL} (h : getR s = some y) : gcode s = chk (cmO y) ∧ gval s = if chk (cmO y) = 0 then y else zL := by unfold gcode gval; rw [h]; exact ⟨rfl, rfl⟩
theorem go_none {s : List UInt8} (h : getR s = none) : gcode s = 12 ∧ gval s = zL := by unfold gcode gval; rw [h]; exact ⟨rfl, rfl⟩
end Go.Proofs.YtgaklngnfecdaaaGreat.Rev
namespace Go.Proofs.YtgaklngnfecdaaaGreat.Rev
open Go.RowKit Zk Zx
open Oid (idf hexL idf_len readR)
open Tre (nmOk)
theorem cut_at {c : UInt8} {s : List UInt8} {k : Nat} (hk : k < s.length) (h : c ∉ s.take k) (hn : g8 s k = (c.toNat : Int)) : cutF c s = some (s.take k, s.drop (k + 1)) := by
  have e : g8 s k = ((s[k]).toNat : Int) := by simp [g8, List.getD_eq_getElem?_getD, List.getElem?_eq_getElem hk]
  have e2 : s[k] = c := UInt8.toNat_inj.1 (by omega)
  have e3 : s = s.take k ++ c :: s.drop (k + 1) := by rw [← e2, List.getElem_cons_drop, List.take_append_drop]
  have := cutF_of (b := s.drop (k + 1)) h
  rw [← e3] at this
  exact this
end Go.Proofs.YtgaklngnfecdaaaGreat.Rev
namespace Go.Proofs.YtgaklngnfecdaaaGreat.Rev
open Go.RowKit Zk Zx
open Oid (idf hexL idf_len readR)
open Tre (nmOk)
end Go.Proofs.YtgaklngnfecdaaaGreat.Rev
namespace Go.Proofs.YtgaklngnfecdaaaGreat.Rev
open Go.RowKit Zk Zx
open Oid (idf hexL idf_len readR)
open Tre (nmOk)
end Go.Proofs.YtgaklngnfecdaaaGreat.Rev
namespace Go.Proofs.YtgaklngnfecdaaaGreat.Rev
open Go.RowKit Zk Zx
open Oid (idf hexL idf_len readR)
open Tre (nmOk)
end Go.Proofs.YtgaklngnfecdaaaGreat.Rev
namespace Go.Proofs.YtgaklngnfecdaaaGreat.Rev
open Go.RowKit Zk Zx
open Oid (idf hexL idf_len readR read_hex)
open Tre (nmOk)
end Go.Proofs.YtgaklngnfecdaaaGreat.Rev
namespace Go.Proofs.YtgaklngnfecdaaaGreat.Rev
open Go.RowKit Zk Zx
open Oid (idf hexL idf_len readR)
open Tre (nmOk)
end Go.Proofs.YtgaklngnfecdaaaGreat.Rev
namespace Go.Proofs.YtgaklngnfecdaaaGreat.Rev
open Go.RowKit Zk Zx
open Oid (idf hexL ris ris_ne idf_len length_hexL)
open Tre (nmOk)
theorem mkf_len (x : Mk) : (mkf x).length = 36 := by simp [mkf, idf_len]
theorem mkf_sz (x : Mk) : (mkf x).toArray.size = 36 := by rw [List.size_toArray, mkf_len]
theorem mkf_one (x : Mk) : ∀ u ∈ mkf x, u.oneCell' = true := fun u hu => by
  rcases List.mem_append.1 hu with h | h
  · exact bL_one _ u h
  · simp at h
    rcases h with rfl | rfl | rfl | rfl <;> rfl
theorem mk_at (x : Mk) (k : Nat) : (mkf x).toArray[32 + k]? = [Value.int .i64 x.kd, .string x.nm, .int .i64 x.tm, .string x.tx][k]? := by
  rw [List.getElem?_toArray, mkf, List.getElem?_append_right (by rw [idf_len]; omega), idf_len]
  congr 1
  omega
theorem mk32 (x : Mk) : (mkf x).toArray[32]? = some (.int .i64 x.kd) := mk_at x 0
theorem mk33 (x : Mk) : (mkf x).toArray[33]? = some (.string x.nm) := mk_at x 1
theorem mk34 (x : Mk) : (mkf x).toArray[34]? = some (.int .i64 x.tm) := mk_at x 2
theorem mk35 (x : Mk) : (mkf x).toArray[35]? = some (.string x.tx) := mk_at x 3
theorem mk_whole (x : Mk) : ((mkf x).toArray.toList.drop 0).take 36 = mkf x ∧ (mkf x).length = 36 := ⟨by rw [List.drop_zero]; exact List.take_of_length_le (by have := mkf_len x; simp only [] at this ⊢; omega), mkf_len x⟩
def chkM (x : Mk) : Int := if 400 < x.tx.size then 3 else if x.kd < 1 ∨ 4 < x.kd then 19 else if nmOk x.nm = false then 15 else if x.tm < 0 ∨ 1099511627776 < x.tm then 2 else 0
def wObject : List UInt8 := [111, 98, 106, 101, 99, 116]
def wKind : List UInt8 := [107, 105, 110, 100]
def wName : List UInt8 := [110, 97, 109, 101]
theorem checkM (x : Mk) (w0 : World)  :
    Calls Tryz.prog 111 #[.agg (mkf x).toArray] w0 fun e w' => ∃ u, e = .returned u ∧ Like w0 w' ∧ u = .int .i64 (chkM x) := by
 refine enter1 (env := [(0, .agg (mkf x).toArray)]) [.agg (mkf x).toArray] Tryz.func111 rfl Tryz.ntmps111 rfl rfl ?_; have S0 := St.start w0 noM; refine T_seq fun K1 hK1 => T_region (L_o (o_box rfl S0 rfl fun b1 w1 hb1 S1 => L_y (y_assign rfl) rfl (L_nil (hK1 _ _ (T_seq fun K2 hK2 => T_block (T_seq fun K3 hK3 => T_region (L_y (y_fieldA 35 Tryz.underlying87 rfl sz9 rfl rfl rfl) rfl (L_y (y_ldc Tryz.underlying9 rfl rfl (((S1.blk 0 rfl).cell _).trans (mk35 x))) rfl (L_y (y_lens Tryz.underlying9 rfl) rfl (L_y (y_gtr rfl rfl) rfl ?_)))))))))); refine L_y (y_assign rfl) rfl (L_nil (hK3 _ _ ?_)); refine T_cond rfl (fun h3 => ?_) (fun h3 => ?_)
 ·
  refine T_seq fun K4 hK4 => T_region (L_y (y_assign rfl) rfl (L_nil (hK4 _ _ (T_ret (ur (ret1 rfl rfl ?_)))))); exact ⟨_, rfl, S1.like0, by unfold chkM; first | rw [if_pos (by omega)] | rw [if_neg (by omega), if_pos (by omega)] | rw [if_neg (by omega), if_neg (by omega), if_pos hnm] | rw [if_neg (by omega), if_neg (by omega), if_neg hnm, if_pos htm] | rw [if_neg (by omega), if_neg (by omega), if_neg hnm, if_neg htm]⟩
 ·
  refine T_seq fun K5 hK5 => T_region (L_y (y_fieldA 32 Tryz.underlying87 rfl sz3 rfl rfl rfl) rfl (L_y (y_ldc Tryz.underlying3 rfl rfl (((S1.blk 0 rfl).cell _).trans (mk32 x))) rfl (L_y (y_lss rfl rfl) rfl (L_y (y_move rfl) rfl ?_)))); refine L_split 12 rfl (fun h12 => ?_) (fun h12 => ?_)
  ·
   refine L_gno rfl rfl rfl (L_gno rfl rfl rfl (L_gno rfl rfl rfl (L_y (y_pk rfl rfl) rfl (L_y (y_assign rfl) rfl (L_nil (hK5 _ _ (T_true rfl (T_seq fun K6 hK6 => T_region (L_y (y_assign rfl) rfl (L_nil (hK6 _ _ (T_ret ?_)))))))))))); refine ur (ret1 rfl rfl ?_); exact ⟨_, rfl, S1.like0, by unfold chkM; first | rw [if_pos (by omega)] | rw [if_neg (by omega), if_pos (by omega)] | rw [if_neg (by omega), if_neg (by omega), if_pos hnm] | rw [if_neg (by omega), if_neg (by omega), if_neg hnm, if_pos htm] | rw [if_neg (by omega), if_neg (by omega), if_neg hnm, if_neg htm]⟩
  ·
   refine L_gyes rfl rfl (L_y (y_fieldA 32 Tryz.underlying87 rfl sz3 rfl rfl rfl) rfl (L_gyes rfl rfl (L_y (y_ldc Tryz.underlying3 rfl rfl (((S1.blk 0 rfl).cell _).trans (mk32 x))) rfl (L_gyes rfl rfl (L_y (y_gtr rfl rfl) rfl (L_y (y_pk rfl rfl) rfl (L_y (y_assign rfl) rfl (L_nil (hK5 _ _ ?_))))))))); refine T_cond rfl (fun h8 => ?_) (fun h8 => ?_)
   ·
    refine T_seq fun K7 hK7 => T_region (L_y (y_assign rfl) rfl (L_nil (hK7 _ _ (T_ret (ur (ret1 rfl rfl ?_)))))); exact ⟨_, rfl, S1.like0, by unfold chkM; first | rw [if_pos (by omega)] | rw [if_neg (by omega), if_pos (by omega)] | rw [if_neg (by omega), if_neg (by omega), if_pos hnm] | rw [if_neg (by omega), if_neg (by omega), if_neg hnm, if_pos htm] | rw [if_neg (by omega), if_neg (by omega), if_neg hnm, if_neg htm]⟩
   ·
    refine T_seq fun K8 hK8 => T_region (L_y (y_fieldA 33 Tryz.underlying87 rfl sz9 rfl rfl rfl) rfl (L_y (y_ldc Tryz.underlying9 rfl rfl (((S1.blk 0 rfl).cell _).trans (mk33 x))) rfl (L_o (o_call Tryz.func142 rfl rfl (Tre.pname x.nm w1) rfl rfl ?_)))); rintro e3 w3 ⟨v3, rfl, l3, rfl⟩; refine ⟨_, rfl, (have S3 := S1.like l3; L_y ((by first | exact y_notD rfl | exact y_not rfl)) rfl ?_)⟩; refine L_y (y_assign rfl) rfl (L_nil (hK8 _ _ ?_)); refine T_condB rfl (fun h17 => ?_) (fun h17 => ?_)
    ·
     have hnm : nmOk x.nm = false := by simpa using h17
     refine T_seq fun K9 hK9 => T_region (L_y (y_assign rfl) rfl (L_nil (hK9 _ _ (T_ret (ur (ret1 rfl rfl ?_)))))); exact ⟨_, rfl, S3.like0, by unfold chkM; first | rw [if_pos (by omega)] | rw [if_neg (by omega), if_pos (by omega)] | rw [if_neg (by omega), if_neg (by omega), if_pos hnm] | rw [if_neg (by omega), if_neg (by omega), if_neg hnm, if_pos htm] | rw [if_neg (by omega), if_neg (by omega), if_neg hnm, if_neg htm]⟩
    ·
     have hnm : ¬ nmOk x.nm = false := by simpa using h17
     refine T_seq fun K10 hK10 => T_region (L_y (y_fieldA 34 Tryz.underlying87 rfl sz3 rfl rfl rfl) rfl (L_y (y_ldc Tryz.underlying3 rfl rfl (((S3.blk 0 rfl).cell _).trans (mk34 x))) rfl (L_o (o_call Tryz.func151 rfl rfl (time_ x.tm w3) rfl rfl ?_)))); rintro e4 w4 ⟨v4, rfl, l4, rfl⟩; refine ⟨_, rfl, (have S4 := S3.like l4; L_y ((by first | exact y_notD rfl | exact y_not rfl)) rfl ?_)⟩; refine L_y (y_assign rfl) rfl (L_nil (hK10 _ _ ?_)); refine T_condB rfl (fun h22 => ?_) (fun h22 => ?_)
     ·
      have htm : x.tm < 0 ∨ 1099511627776 < x.tm := by simpa using h22
      refine T_seq fun K11 hK11 => T_region (L_y (y_assign rfl) rfl (L_nil (hK11 _ _ (T_ret (ur (ret1 rfl rfl ?_)))))); exact ⟨_, rfl, S4.like0, by unfold chkM; first | rw [if_pos (by omega)] | rw [if_neg (by omega), if_pos (by omega)] | rw [if_neg (by omega), if_neg (by omega), if_pos hnm] | rw [if_neg (by omega), if_neg (by omega), if_neg hnm, if_pos htm] | rw [if_neg (by omega), if_neg (by omega), if_neg hnm, if_neg htm]⟩
     ·
      have htm : ¬ (x.tm < 0 ∨ 1099511627776 < x.tm) := by simpa using h22
      refine T_skip (hK2 _ _ (T_seq fun K12 hK12 => T_region (L_y (y_assign rfl) rfl (L_nil (hK12 _ _ (T_ret (ur (ret1 rfl rfl ?_)))))))); exact ⟨_, rfl, S4.like0, by unfold chkM; first | rw [if_pos (by omega)] | rw [if_neg (by omega), if_pos (by omega)] | rw [if_neg (by omega), if_neg (by omega), if_pos hnm] | rw [if_neg (by omega), if_neg (by omega), if_neg hnm, if_pos htm] | rw [if_neg (by omega), if_neg (by omega), if_neg hnm, if_neg htm]⟩
end Go.Proofs.YtgaklngnfecdaaaGreat.Rev
namespace Go.Proofs.YtgaklngnfecdaaaGreat.Rev
open Go.RowKit Zk Zx
open Oid (idf hexL idf_len readR)
open Tre (nmOk)
structure MkL where
  ob : Oid.Id
  kd : Nat
  nm : List UInt8
  tm : Nat
  tx : List UInt8
def mkOf (y : MkL) : Mk := ⟨y.ob, (y.kd : Int), ⟨y.nm.toArray⟩, (y.tm : Int), ⟨y.tx.toArray⟩⟩
def zML : MkL := ⟨⟨List.replicate 32 0, rfl⟩, 0, [], 0, []⟩
theorem zML_mk : mkOf zML = zMk := by kernel_rfl
def markR (s : List UInt8) : Option MkL :=
  (idR wObject s).bind fun o => (numbR wKind o.2).bind fun k => if 9 < k.1 then none else (lineR wName k.2).bind fun a => (numbR wTime a.2).bind fun n => (textR n.2).map fun x => ⟨o.1, k.1, a.1, n.1, x⟩
section
variable {s s1 s2 s3 s4 a x : List UInt8} {o : Oid.Id} {k n : Nat}
theorem m1 (h : idR wObject s = none) : markR s = none := by unfold markR; rw [h]; rfl
theorem m2 (h : idR wObject s = some (o, s1)) (hk : numbR wKind s1 = none) : markR s = none := by unfold markR; rw [h]; simp [hk]
theorem m3 (h : idR wObject s = some (o, s1)) (hk : numbR wKind s1 = some (k, s2)) (h9 : 9 < k) : markR s = none := by unfold markR; rw [h]; simp [hk, h9]
theorem m4 (h : idR wObject s = some (o, s1)) (hk : numbR wKind s1 = some (k, s2)) (ha : lineR wName s2 = none) : markR s = none := by
  unfold markR; rw [h]; by_cases h9 : 9 < k <;> simp [hk, h9, ha]
theorem m5 (h : idR wObject s = some (o, s1)) (hk : numbR wKind s1 = some (k, s2)) (ha : lineR wName s2 = some (a, s3)) (hn : numbR wTime s3 = none) : markR s = none := by
  unfold markR; rw [h]; by_cases h9 : 9 < k <;> simp [hk, h9, ha, hn]
theorem m6 (h : idR wObject s = some (o, s1)) (hk : numbR wKind s1 = some (k, s2)) (ha : lineR wName s2 = some (a, s3)) (hn : numbR wTime s3 = some (n, s4)) (hx : textR s4 = none) : markR s = none := by
  unfold markR; rw [h]; by_cases h9 : 9 < k <;> simp [hk, h9, ha, hn, hx]
theorem m7 (h : idR wObject s = some (o, s1)) (hk : numbR wKind s1 = some (k, s2)) (h9 : ¬ 9 < k) (ha : lineR wName s2 = some (a, s3)) (hn : numbR wTime s3 = some (n, s4)) (hx : textR s4 = some x) : markR s = some ⟨o, k, a, n, x⟩ := by
  unfold markR; rw [h]; simp [hk, h9, ha, hn, hx]
end
theorem stm (x : Mk) (t : Oid.Id) : ((mkf x).toArray.toList.take 0 ++ (idf t).toArray.toList ++ (mkf x).toArray.toList.drop (0 + (idf t).toArray.size)).toArray = (mkf { x with ob := t }).toArray := by
  simp only [List.take_zero, List.nil_append, List.size_toArray, idf_len, Nat.zero_add]
  congr 1
  show idf t ++ (mkf x).drop 32 = _
  unfold mkf
  rw [List.drop_append_of_le_length (by rw [idf_len]; omega), List.drop_of_length_le (by rw [idf_len]; omega), List.nil_append]
theorem stm_at (x : Mk) (k : Nat) (v : Value) (hk : k < 4) : (mkf x).toArray.setIfInBounds (32 + k) v = (idf x.ob ++ [Value.int .i64 x.kd, .string x.nm, .int .i64 x.tm, .string x.tx].set k v).toArray := by
  rw [List.setIfInBounds_toArray]
  congr 1
  unfold mkf
  rw [List.set_append_right _ _ (by rw [idf_len]; omega), idf_len, show 32 + k - 32 = k by omega]
theorem stm32 (x : Mk) (v : Int) : (mkf x).toArray.setIfInBounds 32 (.int .i64 v) = (mkf { x with kd := v }).toArray := stm_at x 0 _ (by omega)
theorem stm33 (x : Mk) (v : ByteArray) : (mkf x).toArray.setIfInBounds 33 (.string v) = (mkf { x with nm := v }).toArray := stm_at x 1 _ (by omega)
theorem stm34 (x : Mk) (v : Int) : (mkf x).toArray.setIfInBounds 34 (.int .i64 v) = (mkf { x with tm := v }).toArray := stm_at x 2 _ (by omega)
theorem stm35 (x : Mk) (v : ByteArray) : (mkf x).toArray.setIfInBounds 35 (.string v) = (mkf { x with tx := v }).toArray := stm_at x 3 _ (by omega)
def mcode (s : List UInt8) : Int := match markR s with
  | none => 12
  | some y => chkM (mkOf y)
def mval (s : List UInt8) : MkL := match markR s with
  | none => zML
  | some y => if chkM (mkOf y) = 0 then y else zML
theorem mo_some {s : List UInt8} {y : MkL} (h : markR s = some y) : mcode s = chkM (mkOf y) ∧ mval s = if chkM (mkOf y) = 0 then y else zML := by unfold mcode mval; rw [h]; exact ⟨rfl, rfl⟩
theorem mo_none {s : List UInt8} (h : markR s = none) : mcode s = 12 ∧ mval s = zML := by unfold mcode mval; rw [h]; exact ⟨rfl, rfl⟩
def kval (s : List UInt8) : MkL := (markR s).getD zML
def kcode (s : List UInt8) : Int := if (markR s).isSome then 0 else 12
theorem kcode_0 {s : List UInt8} (h : kcode s = 0) : markR s = some (kval s) := by
  unfold kcode at h
  unfold kval
  cases e : markR s with
  | none => rw [e] at h; cases h
  | some y => rfl
theorem kcode_n {s : List UInt8} (h : ¬ kcode s = 0) : markR s = none ∧ kcode s = 12 := by
  unfold kcode at h ⊢
  cases e : markR s with
  | none => exact ⟨rfl, rfl⟩
  | some y => rw [e] at h; exact absurd rfl h
theorem k_none {s : List UInt8} (h : markR s = none) : Value.tuple #[.agg (mkf zMk).toArray, .int .i64 12] = .tuple #[.agg (mkf (mkOf (kval s))).toArray, .int .i64 (kcode s)] := by
  rw [show kval s = zML by rw [kval, h]; rfl, show kcode s = 12 by rw [kcode, h]; rfl, zML_mk]
theorem k_some {s : List UInt8} {y : MkL} (h : markR s = some y) : Value.tuple #[.agg (mkf (mkOf y)).toArray, .int .i64 0] = .tuple #[.agg (mkf (mkOf (kval s))).toArray, .int .i64 (kcode s)] := by
  rw [show kval s = y by rw [kval, h]; rfl, show kcode s = 0 by rw [kcode, h]; rfl]
theorem mark (g : Nat) (s : List UInt8) (w0 : World) (hw : (rdR g s).holds w0) (hl : s.length ≤ 100000) :
    Calls Tryz.prog 110 #[.pointer (some ⟨g, 0, none⟩)] w0 fun e w' => ∃ u, e = .returned u ∧ ∃ s', Turned w0 w' (rdR g s) (rdR g s') ∧ u = .tuple #[.agg (mkf (mkOf (kval s))).toArray, .int .i64 (kcode s)] := by
  refine enterD1 (env := [(0, .pointer (some ⟨g, 0, none⟩))]) [.pointer (some ⟨g, 0, none⟩)] Tryz.func110 rfl Tryz.ntmps110 rfl rfl ?_
  have S0 := St.borrow1 (rdR g s) hw (rd_lt hw)
  refine T_seq fun K1 hK1 => ?_
  refine T_region ?_
  refine L_o (o_alloc zz87 S0 rfl fun b1 w1 hb1 S1 => ?_)
  refine L_o (o_alloc zz24 S1 rfl fun b2 w2 hb2 S2 => ?_)
  have S3 : Zx.St w0 (rdR g s).dom [rdR g s, blk b1 87 (mkf zMk).toArray, blk b2 24 #[Value.int .i64 0]] w2 := S2.cast (by kernel_rfl)
  have hne : b1 ≠ b2 := fun e => St.apart_ S3 1 2 rfl rfl rfl b1 rfl e
  refine L_nil ?_
  refine hK1 _ _ ?_
  refine T_seq fun K2 hK2 => ?_
  refine T_region ?_
  refine L_y (y_makeFunc rfl rfl) rfl ?_
  refine L_deferV rfl ?_
  refine L_nil ?_
  refine hK2 _ _ ?_
  refine T_seq fun K3 hK3 => ?_
  refine T_region ?_
  refine L_y (y_move rfl) rfl ?_
  refine L_o (o_callP Tryz.func145 rfl rfl (idr g s wObject w2 (S3.get 0 rfl) (by decide) (by omega)) rfl rfl ?_)
  rintro e4 w4 (⟨rfl, s9, T4, hno⟩ | ⟨v4, rfl, o, s1, hid, T4, rfl⟩)
  · exact .inr ⟨_, rfl, mark_pan rfl rfl rfl ((S3.turn 0 rfl T4).blk 1 rfl) (mkf_sz _) ((S3.turn 0 rfl T4).blk 2 rfl) hne (fun w' T' => ⟨_, rfl, _, (st_pan ((S3.turn 0 rfl T4).sel [0, 1, 2] (by decide)) T').turned1 0 rfl, k_none (m1 hno)⟩)⟩
  refine .inl ⟨_, rfl, ?_⟩
  have S4 := S3.turn 0 rfl T4
  have hl1 := idR_len hid
  refine L_y (y_fieldA 0 Tryz.underlying87 rfl sz41 rfl rfl rfl) rfl ?_
  refine L_o (o_stR S4 1 rfl rfl rfl (by rw [List.size_toArray, idf_len]; exact sz41) (by rw [List.size_toArray, idf_len, mkf_sz]; omega) (fun u hu => bL_one _ u (by rw [List.toList_toArray] at hu; exact hu)) fun w5 S5 => ?_)
  have S6 := S5.blkc 1 rfl (show _ = (mkf (⟨o, 0, ⟨#[]⟩, 0, ⟨#[]⟩⟩ : Mk)).toArray from stm zMk o)
  have S7 : Zx.St w0 (rdR g s).dom [rdR g s1, blk b1 87 (mkf (⟨o, 0, ⟨#[]⟩, 0, ⟨#[]⟩⟩ : Mk)).toArray, blk b2 24 #[Value.int .i64 0]] w5 := S6.cast (by kernel_rfl)
  refine L_nil ?_
  refine hK3 _ _ ?_
  refine T_seq fun K4 hK4 => ?_
  refine T_region ?_
  refine L_y (y_move rfl) rfl ?_
  refine L_o (o_callP Tryz.func148 rfl rfl (numb g s1 wKind w5 (S7.get 0 rfl) (by decide) (by omega)) rfl rfl ?_)
  rintro e8 w8 (⟨rfl, s9, T8, hno⟩ | ⟨v8, rfl, kd, s2, hkd, T8, rfl⟩)
  · exact .inr ⟨_, rfl, mark_pan rfl rfl rfl ((S7.turn 0 rfl T8).blk 1 rfl) (mkf_sz _) ((S7.turn 0 rfl T8).blk 2 rfl) hne (fun w' T' => ⟨_, rfl, _, (st_pan ((S7.turn 0 rfl T8).sel [0, 1, 2] (by decide)) T').turned1 0 rfl, k_none (m2 hid hno)⟩)⟩
  refine .inl ⟨_, rfl, ?_⟩
  have S8 := S7.turn 0 rfl T8
  have hl2 := (numbR_len hkd).1
  refine L_y (y_fieldA 32 Tryz.underlying87 rfl sz3 rfl rfl rfl) rfl ?_
  refine L_o (o_st1 S8 1 rfl rfl rfl rfl sz3 (by rw [mkf_sz]; omega) fun w9 S9 => ?_)
  have S10 := S9.blkc 1 rfl (show _ = (mkf (⟨o, (kd : Int), ⟨#[]⟩, 0, ⟨#[]⟩⟩ : Mk)).toArray from stm32 (⟨o, 0, ⟨#[]⟩, 0, ⟨#[]⟩⟩ : Mk) _)
  have S11 : Zx.St w0 (rdR g s).dom [rdR g s2, blk b1 87 (mkf (⟨o, (kd : Int), ⟨#[]⟩, 0, ⟨#[]⟩⟩ : Mk)).toArray, blk b2 24 #[Value.int .i64 0]] w9 := S10.cast (by kernel_rfl)
  refine L_nil ?_
  refine hK4 _ _ ?_
  refine T_seq fun K5 hK5 => ?_
  refine T_seq fun K6 hK6 => ?_
  refine T_region ?_
  refine L_y (y_fieldA 32 Tryz.underlying87 rfl sz3 rfl rfl rfl) rfl ?_
  refine L_y (y_ldc Tryz.underlying3 rfl rfl (((S11.blk 1 rfl).cell _).trans (mk32 _))) rfl ?_
  refine L_y (y_gtr rfl rfl) rfl ?_
  refine L_nil ?_
  refine hK6 _ _ ?_
  refine T_cond rfl (fun h13 => ?_) (fun h13 => ?_)
  ·
    have h9k : (9 : Int) < (kd : Int) := h13
    refine T_region ?_
    refine L_y (y_build rfl (show _ = some #[Value.int .i64 12] by kernel_rfl)) rfl ?_
    refine L_y (y_mkI (by kernel_rfl) rfl) rfl ?_
    refine L_panic rfl ?_
    exact mark_pan rfl rfl rfl (S11.blk 1 rfl) (mkf_sz _) (S11.blk 2 rfl) hne (fun w' T' => ⟨_, rfl, _, (st_pan (S11.sel [0, 1, 2] (by decide)) T').turned1 0 rfl, k_none (m3 hid hkd (by omega))⟩)
  ·
    have h9k : ¬ (9 : Int) < (kd : Int) := h13
    refine T_skip ?_
    refine hK5 _ _ ?_
    refine T_seq fun K7 hK7 => ?_
    refine T_region ?_
    refine L_y (y_move rfl) rfl ?_
    refine L_o (o_callP Tryz.func147 rfl rfl (take g s2 wName w9 (S11.get 0 rfl) (by decide) (by omega)) rfl rfl ?_)
    rintro e12 w12 (⟨rfl, T12, hno⟩ | ⟨v12, rfl, nm, s3, hnm, T12, rfl⟩)
    · exact .inr ⟨_, rfl, mark_pan rfl rfl rfl ((S11.turn 0 rfl T12).blk 1 rfl) (mkf_sz _) ((S11.turn 0 rfl T12).blk 2 rfl) hne (fun w' T' => ⟨_, rfl, _, (st_pan ((S11.turn 0 rfl T12).sel [0, 1, 2] (by decide)) T').turned1 0 rfl, k_none (m4 hid hkd hno)⟩)⟩
    refine .inl ⟨_, rfl, ?_⟩
    have S12 := S11.turn 0 rfl T12
    have hl3 := lineR_len2 hnm
    refine L_y (y_fieldA 33 Tryz.underlying87 rfl sz9 rfl rfl rfl) rfl ?_
    refine L_o (o_st1 S12 1 rfl rfl rfl rfl sz9 (by rw [mkf_sz]; omega) fun w13 S13 => ?_)
    have S14 := S13.blkc 1 rfl (show _ = (mkf (⟨o, (kd : Int), ⟨nm.toArray⟩, 0, ⟨#[]⟩⟩ : Mk)).toArray from stm33 (⟨o, (kd : Int), ⟨#[]⟩, 0, ⟨#[]⟩⟩ : Mk) _)
    have S15 : Zx.St w0 (rdR g s).dom [rdR g s3, blk b1 87 (mkf (⟨o, (kd : Int), ⟨nm.toArray⟩, 0, ⟨#[]⟩⟩ : Mk)).toArray, blk b2 24 #[Value.int .i64 0]] w13 := S14.cast (by kernel_rfl)
    refine L_nil ?_
    refine hK7 _ _ ?_
    refine T_seq fun K8 hK8 => ?_
    refine T_region ?_
    refine L_y (y_move rfl) rfl ?_
    refine L_o (o_callP Tryz.func148 rfl rfl (numb g s3 wTime w13 (S15.get 0 rfl) (by decide) (by omega)) rfl rfl ?_)
    rintro e16 w16 (⟨rfl, s9, T16, hno⟩ | ⟨v16, rfl, tm, s4, htm, T16, rfl⟩)
    · exact .inr ⟨_, rfl, mark_pan rfl rfl rfl ((S15.turn 0 rfl T16).blk 1 rfl) (mkf_sz _) ((S15.turn 0 rfl T16).blk 2 rfl) hne (fun w' T' => ⟨_, rfl, _, (st_pan ((S15.turn 0 rfl T16).sel [0, 1, 2] (by decide)) T').turned1 0 rfl, k_none (m5 hid hkd hnm hno)⟩)⟩
    refine .inl ⟨_, rfl, ?_⟩
    have S16 := S15.turn 0 rfl T16
    have hl4 := (numbR_len htm).1
    refine L_y (y_fieldA 34 Tryz.underlying87 rfl sz3 rfl rfl rfl) rfl ?_
    refine L_o (o_st1 S16 1 rfl rfl rfl rfl sz3 (by rw [mkf_sz]; omega) fun w17 S17 => ?_)
    have S18 := S17.blkc 1 rfl (show _ = (mkf (⟨o, (kd : Int), ⟨nm.toArray⟩, (tm : Int), ⟨#[]⟩⟩ : Mk)).toArray from stm34 (⟨o, (kd : Int), ⟨nm.toArray⟩, 0, ⟨#[]⟩⟩ : Mk) _)
    have S19 : Zx.St w0 (rdR g s).dom [rdR g s4, blk b1 87 (mkf (⟨o, (kd : Int), ⟨nm.toArray⟩, (tm : Int), ⟨#[]⟩⟩ : Mk)).toArray, blk b2 24 #[Value.int .i64 0]] w17 := S18.cast (by kernel_rfl)
    refine L_nil ?_
    refine hK8 _ _ ?_
    refine T_seq fun K9 hK9 => ?_
    refine T_region ?_
    refine L_y (y_move rfl) rfl ?_
    refine L_o (o_callP Tryz.func149 rfl rfl (text_ g s4 w17 (S19.get 0 rfl)) rfl rfl ?_)
    rintro e20 w20 (⟨rfl, T20, hno⟩ | ⟨v20, rfl, tx, htx, T20, rfl⟩)
    · exact .inr ⟨_, rfl, mark_pan rfl rfl rfl ((S19.turn 0 rfl T20).blk 1 rfl) (mkf_sz _) ((S19.turn 0 rfl T20).blk 2 rfl) hne (fun w' T' => ⟨_, rfl, _, (st_pan ((S19.turn 0 rfl T20).sel [0, 1, 2] (by decide)) T').turned1 0 rfl, k_none (m6 hid hkd hnm htm hno)⟩)⟩
    refine .inl ⟨_, rfl, ?_⟩
    have S20 := S19.turn 0 rfl T20
    refine L_y (y_fieldA 35 Tryz.underlying87 rfl sz9 rfl rfl rfl) rfl ?_
    refine L_o (o_st1 S20 1 rfl rfl rfl rfl sz9 (by rw [mkf_sz]; omega) fun w21 S21 => ?_)
    have S22 := S21.blkc 1 rfl (show _ = (mkf (⟨o, (kd : Int), ⟨nm.toArray⟩, (tm : Int), ⟨tx.toArray⟩⟩ : Mk)).toArray from stm35 (⟨o, (kd : Int), ⟨nm.toArray⟩, (tm : Int), ⟨#[]⟩⟩ : Mk) _)
    have S23 : Zx.St w0 (rdR g s).dom [rdR g s4, blk b1 87 (mkf (⟨o, (kd : Int), ⟨nm.toArray⟩, (tm : Int), ⟨tx.toArray⟩⟩ : Mk)).toArray, blk b2 24 #[Value.int .i64 0]] w21 := S22.cast (by kernel_rfl)
    refine L_nil ?_
    refine hK9 _ _ ?_
    refine T_seq fun K10 hK10 => ?_
    refine T_region ?_
    refine L_y (y_ldW Tryz.underlying87 rfl sz87 rfl (S23.blk 1 rfl) (mk_whole _)) rfl ?_
    refine L_o (o_stW S23 1 rfl rfl rfl (by rw [mkf_sz]; exact sz87) (by rw [mkf_sz]) (fun u hu => mkf_one _ u (by rw [List.toList_toArray] at hu; exact hu)) fun w24 S24 => ?_)
    refine L_o (o_st1 S24 2 rfl rfl rfl rfl sz24 (by simp; done) fun w25 S25 => ?_)
    refine L_nil ?_
    refine hK10 _ _ ?_
    refine T_ret ?_
    refine ur ?_
    refine mark_ret rfl rfl rfl (S25.blk 1 rfl) (mkf_sz _) (S25.blk 2 rfl) ?_
    intro w' l'
    exact ⟨_, rfl, _, (S25.like l').turned1 0 rfl, k_some (y := ⟨o, kd, nm, tm, tx⟩) (m7 hid hkd (by omega) hnm htm htx)⟩
end Go.Proofs.YtgaklngnfecdaaaGreat.Rev
namespace Go.Proofs.YtgaklngnfecdaaaGreat.Zx
open Go.RowKit Zk
section
variable {P : Program}
def FE (P : Program) (d : Nat) (xs ys : Array Value) (f : Field) (b : Bool) : Prop :=
  f.name ≠ "_" ∧ ∃ vx vy, (∀ w, (part f.type xs f.offset).run P w = .ok vx w) ∧ (∀ w, (part f.type ys f.offset).run P w = .ok vy w) ∧ (∀ w, (Op.equalIn d f.type vx vy).run P w = .ok b w)
inductive EqFs (P : Program) (d : Nat) (xs ys : Array Value) : List Field → Bool → Prop
  | nil : EqFs P d xs ys [] true
  | cons {f : Field} {fs : List Field} {b r : Bool} : FE P d xs ys f b → EqFs P d xs ys fs r → EqFs P d xs ys (f :: fs) (b && r)
theorem EqFs.run {d : Nat} {xs ys : Array Value} : ∀ {fs : List Field} {r : Bool}, EqFs P d xs ys fs r → ∀ w, (Op.eqFields d xs ys fs).run P w = .ok r w
  | _, _, .nil, w => rfl
  | _, _, .cons (f := f) (fs := fs) (b := b) (r := r) ⟨hn, vx, vy, h1, h2, h3⟩ h, w => by
    rw [Op.eqFields, if_pos hn, Sem.run_bind, h1 w, Result.andThen_ok, Sem.run_bind, h2 w, Result.andThen_ok, Sem.run_bind, h3 w, Result.andThen_ok]
    cases b with
    | true =>
      simp only [Bool.not_true, Bool.false_eq_true, if_false]
      rw [h.run w]
      rfl
    | false =>
      simp only [Bool.not_false, if_true, Sem.run_pure]
      rfl
variable {S : World → Prop} {env : Env} {dst : Option Tmp} {ty : TypeId} {pos : String} {after : Array Edge} {g : Option (Nat × Bool)}
end
end Go.Proofs.YtgaklngnfecdaaaGreat.Zx
namespace Go.Proofs.YtgaklngnfecdaaaGreat.Rev
open Go.RowKit Zk Zx
open Oid (idf hexL idf_len readR)
open Tre (nmOk)
end Go.Proofs.YtgaklngnfecdaaaGreat.Rev
namespace Go.Proofs.YtgaklngnfecdaaaGreat.Rev
open Go.RowKit Zk Zx
open Oid (idf hexL idf_len readR)
open Tre (nmOk)
end Go.Proofs.YtgaklngnfecdaaaGreat.Rev
namespace Go.Proofs.YtgaklngnfecdaaaGreat.Rev
open Go.ChangeShapes Go.WideShapes Go.ChangeAt Go.RowKit Go.Deep Zk Zx
open Oid (idf idf_len)
section
variable {H : Type} {enc : TypeId × Value → H} {w : World} {base : Nat} {spare : Nat → Bool} {held : Bool}
end
end Go.Proofs.YtgaklngnfecdaaaGreat.Rev
namespace Go.Proofs.YtgaklngnfecdaaaGreat.Rev
open Go.RowKit Zk Zx
open Oid (idf hexL idf_len readR)
open Tre (nmOk)
theorem getB (B : Option Addr) (m d : Nat) (s : List UInt8) (w0 : World) (hb : Rs w0 1 B m d (bL s)) (hl : s.length ≤ 90000) :
    Calls Tryz.prog 74 #[.slice B m d] w0 fun e w' => ∃ u, e = .returned u ∧ Like w0 w' ∧ ∃ A c, Fr w0 w' 32 A (gval s).ps.length c ((gval s).ps.flatMap idf) ∧ u = .tuple #[.agg (cmf (cmOf (gval s) A (gval s).ps.length c)).toArray, .int .i64 (gcode s)] := by
 refine enter1 (env := [(0, .slice B m d)]) [.slice B m d] Tryz.func74 rfl Tryz.ntmps74 rfl rfl ?_; have S0 := St.start w0 noM; refine T_seq fun K1 hK1 => T_region (L_o (o_alloc zz83 S0 rfl fun b1 w1 hb1 S1 => L_y (y_assign rfl) rfl (L_nil (hK1 _ _ (T_seq fun K2 hK2 => T_region (L_y (y_move rfl) rfl (L_y (y_bstr Tryz.underlying22 Tryz.underlying5 Tryz.underlying9 rfl (by first | exact S1.rd hb)) rfl ?_))))))); refine L_y (y_build rfl (show _ = some #[Value.string ⟨s.toArray⟩] by kernel_rfl)) rfl (L_o (o_box rfl S1 rfl fun b2 w2 hb2 S2 => have S3 : Zx.St w0 noM [blk b1 83 (cmf zCm).toArray, rdR b2 s] w2 := S2.cast (by kernel_rfl); L_y (y_assign rfl) rfl (L_nil (hK2 _ _ (T_seq fun K3 hK3 => T_region (L_y (y_move rfl) rfl (L_o (o_call Tryz.func108 rfl rfl (readr' b2 s w2 (S3.get 1 rfl) (by omega)) rfl rfl ?_)))))))); rintro e4 w4 ⟨v4, rfl, s9, A, c, T4, hf4, rfl⟩; refine ⟨_, rfl, (have S4 := S3.turn 1 rfl T4; have S5 := St.newF S3 1 rfl T4 (fun i hi => hi) hf4; L_y (y_move rfl) rfl (L_y (y_extract rfl rfl) rfl (L_y (y_extract rfl rfl) rfl (L_o (o_alloc zz83 S5 rfl fun b6 w6 hb6 S6 => L_o (o_stW S6 3 rfl rfl rfl (by rw [cmf_sz]; exact sz83) (by first | (rw [cmf_sz]; done) | (rw [cmf_sz]; rfl)) (fun u hu => cmf_one _ u (by rw [List.toList_toArray] at hu; exact hu)) fun w7 S7 => ?_))))))⟩; refine L_y (y_assign rfl) rfl (L_nil (hK3 _ _ (T_seq fun K4 hK4 => T_seq fun K5 hK5 => T_region (L_y (y_move rfl) rfl (L_y (y_eql rfl rfl) rfl (L_nil (hK5 _ _ ?_))))))); refine T_cond rfl (fun h17 => ?_) (fun h17 => ?_)
 ·
  have hg := rcode_0 h17; refine T_region (L_y (y_ldW Tryz.underlying83 rfl sz83 rfl (S7.blk 3 rfl) (cm_whole _)) rfl (L_o (o_call Tryz.func109 rfl rfl (check (cmOf (rval s) A _ c) w7 (S7.fix 2 rfl)) rfl rfl ?_))); rintro e8 w8 ⟨v8, rfl, l8, rfl⟩; refine ⟨_, rfl, (have S8 := S7.like l8; L_y (y_assign rfl) rfl (L_nil (hK4 _ _ (T_seq fun K6 hK6 => T_seq fun K7 hK7 => T_region (L_y (y_move rfl) rfl (L_y (y_neq rfl rfl) rfl (L_nil (hK7 _ _ ?_))))))))⟩; refine T_cond rfl (fun h21 => ?_) (fun h21 => ?_)
  ·
   refine T_seq fun K8 hK8 => T_region (L_y (y_build rfl (show _ = some (cmf zCm).toArray by kernel_rfl)) rfl (L_y (y_move rfl) rfl (L_o (o_stW S8 0 rfl rfl rfl (by rw [cmf_sz]; exact sz83) (by first | (rw [cmf_sz]; done) | (rw [cmf_sz]; rfl)) (fun u hu => cmf_one _ u (by rw [List.toList_toArray] at hu; exact hu)) fun w9 S9 => ?_)))); refine L_y (y_assign rfl) rfl (L_nil (hK8 _ _ (T_ret (ur (retct rfl rfl rfl (S9.blk 0 rfl) Tryz.underlying83 rfl (by rw [cmf_sz]; exact sz83) ?_))))); have hgo := go_some hg; have hgc : chk (cmOf (rval s) A (rval s).ps.length c) = chk (cmO (rval s)) := rfl; have hv : gval s = zL := by rw [hgo.2, if_neg (fun e => h21 (hgc.trans e))]
   rw [hv, hgo.1]; refine ⟨_, rfl, S9.like0, none, 0, fr_nil _ _ _, ?_⟩; exact congrArg (fun x => Value.tuple #[.agg (cmf x).toArray, _]) zL_cm.symm
  ·
   refine T_skip (hK6 _ _ (T_seq fun K9 hK9 => T_region (L_y (y_ldW Tryz.underlying83 rfl sz83 rfl (S8.blk 3 rfl) (cm_whole _)) rfl (L_o (o_stW S8 0 rfl rfl rfl (by rw [cmf_sz]; exact sz83) (by first | (rw [cmf_sz]; done) | (rw [cmf_sz]; rfl)) (fun u hu => cmf_one _ u (by rw [List.toList_toArray] at hu; exact hu)) fun w10 S10 => ?_))))); refine L_y (y_assign rfl) rfl (L_nil (hK9 _ _ (T_ret (ur (retct rfl rfl rfl (S10.blk 0 rfl) Tryz.underlying83 rfl (by rw [cmf_sz]; exact sz83) ?_))))); have hgo := go_some hg; have hgc : chk (cmOf (rval s) A (rval s).ps.length c) = chk (cmO (rval s)) := rfl; have h0 : chk (cmO (rval s)) = 0 := Classical.byContradiction fun e => h21 e; have hv : gval s = rval s := by rw [hgo.2, if_pos h0]
   rw [hv, hgo.1, h0]; exact ⟨_, rfl, S10.like0, A, c, S10.fr 2 rfl, rfl⟩
 ·
  have hg := rcode_n h17; refine T_skip (hK4 _ _ (T_seq fun K10 hK10 => T_seq fun K11 hK11 => T_region (L_y (y_move rfl) rfl (L_y (y_neq rfl rfl) rfl (L_nil (hK11 _ _ ?_)))))); refine T_cond rfl (fun h21 => ?_) (fun h21 => ?_)
  ·
   refine T_seq fun K12 hK12 => T_region (L_y (y_build rfl (show _ = some (cmf zCm).toArray by kernel_rfl)) rfl (L_y (y_move rfl) rfl (L_o (o_stW S7 0 rfl rfl rfl (by rw [cmf_sz]; exact sz83) (by first | (rw [cmf_sz]; done) | (rw [cmf_sz]; rfl)) (fun u hu => cmf_one _ u (by rw [List.toList_toArray] at hu; exact hu)) fun w11 S11 => ?_)))); refine L_y (y_assign rfl) rfl (L_nil (hK12 _ _ (T_ret (ur (retct rfl rfl rfl (S11.blk 0 rfl) Tryz.underlying83 rfl (by rw [cmf_sz]; exact sz83) ?_))))); have hgo := go_none hg.1; have hv : gval s = zL := hgo.2; rw [hv, hgo.1]; refine ⟨_, rfl, S11.like0, none, 0, fr_nil _ _ _, ?_⟩; show Value.tuple #[.agg (cmf zCm).toArray, .int .i64 (rcode s)] = _
   rw [hg.2]; exact congrArg (fun x => Value.tuple #[.agg (cmf x).toArray, _]) zL_cm.symm
  ·
   refine T_skip (hK10 _ _ (T_seq fun K13 hK13 => T_region (L_y (y_ldW Tryz.underlying83 rfl sz83 rfl (S7.blk 3 rfl) (cm_whole _)) rfl (L_o (o_stW S7 0 rfl rfl rfl (by rw [cmf_sz]; exact sz83) (by first | (rw [cmf_sz]; done) | (rw [cmf_sz]; rfl)) (fun u hu => cmf_one _ u (by rw [List.toList_toArray] at hu; exact hu)) fun w12 S12 => ?_))))); refine L_y (y_assign rfl) rfl (L_nil (hK13 _ _ (T_ret (ur (retct rfl rfl rfl (S12.blk 0 rfl) Tryz.underlying83 rfl (by rw [cmf_sz]; exact sz83) ?_))))); exact absurd hg.2 (fun e => h21 (by rw [e]; decide))
theorem getMB (B : Option Addr) (m d : Nat) (s : List UInt8) (w0 : World) (hb : Rs w0 1 B m d (bL s)) (hl : s.length ≤ 90000) :
    Calls Tryz.prog 75 #[.slice B m d] w0 fun e w' => ∃ u, e = .returned u ∧ Like w0 w' ∧ u = .tuple #[.agg (mkf (mkOf (mval s))).toArray, .int .i64 (mcode s)] := by
 refine enter1 (env := [(0, .slice B m d)]) [.slice B m d] Tryz.func75 rfl Tryz.ntmps75 rfl rfl ?_; have S0 := St.start w0 noM; refine T_seq fun K1 hK1 => T_region (L_o (o_alloc zz87 S0 rfl fun b1 w1 hb1 S1 => L_y (y_assign rfl) rfl (L_nil (hK1 _ _ (T_seq fun K2 hK2 => T_region (L_y (y_move rfl) rfl (L_y (y_bstr Tryz.underlying22 Tryz.underlying5 Tryz.underlying9 rfl (by first | exact S1.rd hb)) rfl ?_))))))); refine L_y (y_build rfl (show _ = some #[Value.string ⟨s.toArray⟩] by kernel_rfl)) rfl (L_o (o_box rfl S1 rfl fun b2 w2 hb2 S2 => have S3 : Zx.St w0 noM [blk b1 87 (mkf zMk).toArray, rdR b2 s] w2 := S2.cast (by kernel_rfl); L_y (y_assign rfl) rfl (L_nil (hK2 _ _ (T_seq fun K3 hK3 => T_region (L_y (y_move rfl) rfl (L_o (o_call Tryz.func110 rfl rfl (mark b2 s w2 (S3.get 1 rfl) (by omega)) rfl rfl ?_)))))))); rintro e4 w4 ⟨v4, rfl, s9, T4, rfl⟩; refine ⟨_, rfl, (have S4 := S3.turn 1 rfl T4; L_y (y_move rfl) rfl (L_y (y_extract rfl rfl) rfl (L_y (y_extract rfl rfl) rfl (L_o (o_alloc zz87 S4 rfl fun b5 w5 hb5 S5 => L_o (o_stW S5 2 rfl rfl rfl (by rw [mkf_sz]; exact sz87) (by first | (rw [mkf_sz]; done) | (rw [mkf_sz]; rfl)) (fun u hu => mkf_one _ u (by rw [List.toList_toArray] at hu; exact hu)) fun w6 S6 => ?_))))))⟩; refine L_y (y_assign rfl) rfl (L_nil (hK3 _ _ (T_seq fun K4 hK4 => T_seq fun K5 hK5 => T_region (L_y (y_move rfl) rfl (L_y (y_eql rfl rfl) rfl (L_nil (hK5 _ _ ?_))))))); refine T_cond rfl (fun h17 => ?_) (fun h17 => ?_)
 ·
  have hg := kcode_0 h17; refine T_region (L_y (y_ldW Tryz.underlying87 rfl sz87 rfl (S6.blk 2 rfl) (mk_whole _)) rfl (L_o (o_call Tryz.func111 rfl rfl (checkM (mkOf (kval s)) w6) rfl rfl ?_))); rintro e7 w7 ⟨v7, rfl, l7, rfl⟩; refine ⟨_, rfl, (have S7 := S6.like l7; L_y (y_assign rfl) rfl (L_nil (hK4 _ _ (T_seq fun K6 hK6 => T_seq fun K7 hK7 => T_region (L_y (y_move rfl) rfl (L_y (y_neq rfl rfl) rfl (L_nil (hK7 _ _ ?_))))))))⟩; refine T_cond rfl (fun h21 => ?_) (fun h21 => ?_)
  ·
   refine T_seq fun K8 hK8 => T_region (L_y (y_build rfl (show _ = some (mkf zMk).toArray by kernel_rfl)) rfl (L_y (y_move rfl) rfl (L_o (o_stW S7 0 rfl rfl rfl (by rw [mkf_sz]; exact sz87) (by first | (rw [mkf_sz]; done) | (rw [mkf_sz]; rfl)) (fun u hu => mkf_one _ u (by rw [List.toList_toArray] at hu; exact hu)) fun w8 S8 => ?_)))); refine L_y (y_assign rfl) rfl (L_nil (hK8 _ _ (T_ret (ur (retct rfl rfl rfl (S8.blk 0 rfl) Tryz.underlying87 rfl (by rw [mkf_sz]; exact sz87) ?_))))); have hgo := mo_some hg; have hv : mval s = zML := by rw [hgo.2, if_neg (show ¬ chkM (mkOf (kval s)) = 0 from fun e => h21 e)]
   rw [hv, hgo.1, zML_mk]; exact ⟨_, rfl, S8.like0, rfl⟩
  ·
   refine T_skip (hK6 _ _ (T_seq fun K9 hK9 => T_region (L_y (y_ldW Tryz.underlying87 rfl sz87 rfl (S7.blk 2 rfl) (mk_whole _)) rfl (L_o (o_stW S7 0 rfl rfl rfl (by rw [mkf_sz]; exact sz87) (by first | (rw [mkf_sz]; done) | (rw [mkf_sz]; rfl)) (fun u hu => mkf_one _ u (by rw [List.toList_toArray] at hu; exact hu)) fun w9 S9 => ?_))))); refine L_y (y_assign rfl) rfl (L_nil (hK9 _ _ (T_ret (ur (retct rfl rfl rfl (S9.blk 0 rfl) Tryz.underlying87 rfl (by rw [mkf_sz]; exact sz87) ?_))))); have hgo := mo_some hg; have h0 : chkM (mkOf (kval s)) = 0 := Classical.byContradiction fun e => h21 e; have hv : mval s = kval s := by rw [hgo.2, if_pos h0]
   rw [hv, hgo.1, h0]; exact ⟨_, rfl, S9.like0, rfl⟩
 ·
  have hg := kcode_n h17; refine T_skip (hK4 _ _ (T_seq fun K10 hK10 => T_seq fun K11 hK11 => T_region (L_y (y_move rfl) rfl (L_y (y_neq rfl rfl) rfl (L_nil (hK11 _ _ ?_)))))); refine T_cond rfl (fun h21 => ?_) (fun h21 => ?_)
  ·
   refine T_seq fun K12 hK12 => T_region (L_y (y_build rfl (show _ = some (mkf zMk).toArray by kernel_rfl)) rfl (L_y (y_move rfl) rfl (L_o (o_stW S6 0 rfl rfl rfl (by rw [mkf_sz]; exact sz87) (by first | (rw [mkf_sz]; done) | (rw [mkf_sz]; rfl)) (fun u hu => mkf_one _ u (by rw [List.toList_toArray] at hu; exact hu)) fun w10 S10 => ?_)))); refine L_y (y_assign rfl) rfl (L_nil (hK12 _ _ (T_ret (ur (retct rfl rfl rfl (S10.blk 0 rfl) Tryz.underlying87 rfl (by rw [mkf_sz]; exact sz87) ?_))))); have hgo := mo_none hg.1; have hv : mval s = zML := hgo.2; rw [hv, hgo.1, zML_mk]; exact ⟨_, rfl, S10.like0, by show Value.tuple #[.agg (mkf zMk).toArray, .int .i64 (kcode s)] = _; rw [hg.2]⟩
  ·
   refine T_skip (hK10 _ _ (T_seq fun K13 hK13 => T_region (L_y (y_ldW Tryz.underlying87 rfl sz87 rfl (S6.blk 2 rfl) (mk_whole _)) rfl (L_o (o_stW S6 0 rfl rfl rfl (by rw [mkf_sz]; exact sz87) (by first | (rw [mkf_sz]; done) | (rw [mkf_sz]; rfl)) (fun u hu => mkf_one _ u (by rw [List.toList_toArray] at hu; exact hu)) fun w11 S11 => ?_))))); refine L_y (y_assign rfl) rfl (L_nil (hK13 _ _ (T_ret (ur (retct rfl rfl rfl (S11.blk 0 rfl) Tryz.underlying87 rfl (by rw [mkf_sz]; exact sz87) ?_))))); exact absurd hg.2 (fun e => h21 (by rw [e]; decide))
end Go.Proofs.YtgaklngnfecdaaaGreat.Rev
namespace Go.Proofs.YtgaklngnfecdaaaGreat.Zx
open Go.RowKit Zk Go.Maps
section
variable {P : Program} {N : Nat} {Q : Post} {env : Env} {w w0 : World} {M : Nat → Prop} {rs : List Res} {K : Env → World → Prop} {d : Tmp} {dst : Option Tmp} {ty : TypeId} {pos : String} {after : Array Edge} {g : Option (Nat × Bool)}
def hasS (L : List ByteArray) (s : ByteArray) : Bool := L.any fun t => decide (t = s)
theorem hasS_iff {L : List ByteArray} {s : ByteArray} : hasS L s = true ↔ s ∈ L := by
  unfold hasS
  rw [List.any_eq_true]
  constructor
  · rintro ⟨t, h1, h2⟩
    rw [← of_decide_eq_true h2]
    exact h1
  · exact fun h => ⟨s, h, decide_eq_true rfl⟩
def SM (D : DU) (L : List ByteArray) : Prop := IsMap D ∧ ∀ s : ByteArray, D.atKey (.string s.data.toList) (.lit (.bool false)) = .lit (.bool (hasS L s))
theorem SM.nil : SM (.map []) [] := ⟨⟨[], rfl⟩, fun s => rfl⟩
theorem bytes_inj {a b : ByteArray} (h : a.data.toList = b.data.toList) : a = b := by
  apply ByteArray.ext
  exact Array.toList_inj.1 h
theorem SM.put {D : DU} {L : List ByteArray} (h : SM D L) (s : ByteArray) : SM (D.put (.string s.data.toList) (.lit (.bool true))) (L ++ [s]) := by
  refine ⟨?_, fun t => ?_⟩
  · obtain ⟨es, rfl⟩ := h.1
    exact ⟨_, rfl⟩
  · by_cases e : t = s
    · subst e
      rw [atKey_put_same h.1 (show WideAt.IsKeyLit (.string _) from trivial), hasS_iff.2 (by simp)]
    · have e2 : hasS (L ++ [s]) t = hasS L t := by
        rw [Bool.eq_iff_iff, hasS_iff, hasS_iff]
        simp [e]
      rw [atKey_put_other (fun q => e (bytes_inj (by injection q))), h.2 t, e2]
theorem y_lookZ {t k e : TypeId} {b n : Nat} {D : DU} {L : List ByteArray} {m x : Operand} {s : ByteArray} (hown : w.ownsMap P k (plainElem P e) b n D) (hk : P.underlying k = some .string) (ht : P.underlying t = some (.map k e)) (he : P.underlying e = some .bool)
    (hz : ∀ w, (zeroValue e).run P w = .ok (.bool false) w) (hm : ev env m = some (.map (some b))) (hx : ev env x = some (.string s)) (hs : s.size ≤ maxLen) (hc : SM D L) :
    Y P (Like w) env ⟨dst, .lookup t m x false, ty, pos, after, g⟩ (.bool (hasS L s)) := fun N a w' ha hw => by
  have h2 : w'.ownsMap P k (plainElem P e) b n D := (mapR P k e b n D).stable w w' (fun i hi => by have hi' : i = b := hi; subst hi'; exact hw.block i hown.lt) hown
  obtain ⟨v, ps, hrun, hv⟩ := h2.lookup (Maps.string_keyed hk) ht (hz w') (plainElem_bool (H := Unit) he false) (Go.WideMaps.keyOf_string_mk hk hs)
  rw [hc.2 s] at hv
  have e1 : v = .bool (hasS L s) := by
    cases v with
    | bool c =>
      rw [plainElem_bool he] at hv
      have := Option.some.inj hv
      have h3 := congrArg Prod.fst this
      simp only [DataW.lit.injEq, Lit.bool.injEq] at h3
      rw [h3]
    | _ => simp [plainElem, he] at hv
  subst e1
  simp only [execOp, ha.eval hm, ha.eval hx, Sem.run_bind, hrun, Sem.run_pure, Result.andThen_ok]
theorem o_mapUpZ {t k e : TypeId} {b n : Nat} {D : DU} {m x v : Operand} {s : ByteArray} {c : Bool} (S : St w0 M rs w) (j : Nat) (hj : rs[j]? = some (mapR P k e b n D)) (hk : P.underlying k = some .string) (ht : P.underlying t = some (.map k e)) (he : P.underlying e = some .bool)
    (hm : ev env m = some (.map (some b))) (hx : ev env x = some (.string s)) (hv : ev env v = some (.bool c)) (hs : s.size ≤ maxLen) (hn : n < 9223372036854775807)
    (h : ∀ w', St w0 M (rs.set j (mapR P k e b (n + 1) (D.put (.string s.data.toList) (.lit (.bool c))))) w' → K env w') :
    O P N Q ⟨none, .mapUpdate t m x v, ty, pos, after, g⟩ env w K := fun a ha => by
  have hown : w.ownsMap P k (plainElem P e) b n D := S.get j hj
  obtain ⟨w', hrun, h1, h2⟩ := hown.update (Maps.string_keyed hk) ht (by unfold maxLen; exact hn) (Go.WideMaps.keyOf_string_mk hk hs) (plainElem_bool (H := Unit) he c)
  unfold Oper.wp
  simp only [execOp, ha.eval hm, ha.eval hx, ha.eval hv, Sem.run_bind, hrun, Sem.run_pure, Result.andThen_ok]
  refine ⟨env, ha, h w' (S.upd j hj h2.os h2.tape h2.output h2.size (fun i hi hn => h2.block i hi fun e => hn ?_) h1 fun i hi => .inl hi)⟩
  injection e with e
end
end Go.Proofs.YtgaklngnfecdaaaGreat.Zx
namespace Go.Proofs.YtgaklngnfecdaaaGreat.Tre
open Go.RowKit Zk Zx
theorem ok_next {l : List EV} {k : Nat} {x : EV} (h : ∀ j e, j < k → l[j]? = some e → mdOk e.md ∧ nmOk e.nm = true) (hx : l[k]? = some x) (h1 : mdOk x.md) (h2 : nmOk x.nm = true) : ∀ j e, j < k + 1 → l[j]? = some e → mdOk e.md ∧ nmOk e.nm = true := fun j e hj he => by
  rcases Nat.lt_or_ge j k with q | q
  · exact h j e q he
  · obtain rfl : j = k := by omega
    rw [hx] at he
    cases he
    exact ⟨h1, h2⟩
theorem ris_next {l : List EV} {k : Nat} {x y : EV} (h : ∀ j x y, j + 1 < k → l[j]? = some x → l[j + 1]? = some y → ltK x y = true) (hx : l[k - 1]? = some x) (hy : l[k]? = some y) (h0 : 0 < k) (h1 : ltK x y = true) : ∀ j x y, j + 1 < k + 1 → l[j]? = some x → l[j + 1]? = some y → ltK x y = true := fun j a b hj ha hb => by
  rcases Nat.lt_or_ge (j + 1) k with q | q
  · exact h j a b q ha hb
  · obtain rfl : j = k - 1 := by omega
    rw [show k - 1 + 1 = k by omega] at hb
    rw [hx] at ha
    rw [hy] at hb
    cases ha
    cases hb
    exact h1
theorem enf_sz (x : EV) : (enf x).toArray.size = 34 := by rw [List.size_toArray, enf_len]
theorem szE (x : EV) : (Tryz.prog.info? 149).map (·.size) = some (enf x).toArray.size := sz149.trans (congrArg some (by rw [List.size_toArray, enf_len]))
theorem risK_fin {l : List EV} {k : Nat} (h : ∀ j x y, j + 1 < k → l[j]? = some x → l[j + 1]? = some y → ltK x y = true) (h1 : k ≤ l.length ∨ k = 1) (h2 : l.length ≤ k) : risK l = true := by
  rcases h1 with h1 | h1
  · exact (risK_at l k h h1).trans (risK_end (by omega))
  · subst h1
    match l, h2 with
    | [], _ => rfl
    | [x], _ => rfl
    | x :: y :: m, h2 => simp at h2
theorem chkE_long {l : List EV} (h : 64 < l.length) : chkE l = 3 := by unfold chkE; rw [if_pos h]
theorem chkE_one {l : List EV} {c : Int} (h : ¬ 64 < l.length) (h1 : chk1 l = c) (hc : c ≠ 0) : chkE l = c := by unfold chkE; rw [if_neg h, if_pos (by rw [h1]; exact hc), h1]
theorem chkE_twice {l : List EV} (h : ¬ 64 < l.length) (h1 : chk1 l = 0) (h2 : ¬ once l) : chkE l = 17 := by unfold chkE; rw [if_neg h, if_neg (by omega), if_pos h2]
theorem chkE_ord {l : List EV} (h : ¬ 64 < l.length) (h1 : chk1 l = 0) (h2 : once l) (h3 : risK l = false) : chkE l = 18 := by unfold chkE; rw [if_neg h, if_neg (by omega), if_neg (fun x => x h2), if_pos h3]
theorem chkE_ok {l : List EV} (h : ¬ 64 < l.length) (h1 : chk1 l = 0) (h2 : once l) (h3 : risK l = true) : chkE l = 0 := by unfold chkE; rw [if_neg h, if_neg (by omega), if_neg (fun x => x h2), if_neg (by rw [h3]; exact fun x => by cases x)]
theorem pcheck (A : Option Addr) (n c : Nat) (l : List EV) (w0 : World) (hl : Rs w0 34 A n c (l.flatMap enf)) (hn5 : n ≤ 10000) :
    Calls Tryz.prog 107 #[.slice A n c] w0 fun e w' => ∃ u, e = .returned u ∧ Like w0 w' ∧ u = .int .i64 (chkE l) := by
 refine enter1 (env := [(0, .slice A n c)]) [.slice A n c] Tryz.func107 rfl Tryz.ntmps107 rfl rfl ?_; have hn := ens_n hl; have hcap := hl.cap; have hmax := hl.max; have S0 := St.start w0 noM; refine T_seq fun K1 hK1 => T_region (L_y (y_assign rfl) rfl (L_nil (hK1 _ _ (T_seq fun K2 hK2 => T_seq fun K3 hK3 => T_region (L_y (y_move rfl) rfl (L_y (y_len Tryz.underlying78 rfl) rfl (L_y (y_gtr rfl rfl) rfl (L_nil (hK3 _ _ ?_))))))))); refine T_cond rfl (fun h10 => ?_) (fun h10 => ?_)
 ·
  refine T_seq fun K4 hK4 => T_region (L_y (y_assign rfl) rfl (L_nil (hK4 _ _ (T_ret (ur (ret1 rfl rfl ?_)))))); exact ⟨_, rfl, S0.like0, congrArg (Value.int _) (chkE_long (by omega)).symm⟩
 ·
  refine T_skip (hK2 _ _ (T_seq fun K5 hK5 => T_region (L_o (o_makeMap (t := 232) (k := 9) (e := 4) S0 rfl fun b1 w1 hb1 S1 => L_y (y_assign rfl) rfl (L_nil (hK5 _ _ (T_seq fun K6 hK6 => T_region (L_y (y_assign rfl) rfl (L_nil (hK6 _ _ (T_seq fun K7 hK7 => ?_))))))))))); refine T_seq fun K8 hK8 => T_region (L_y (y_move rfl) rfl (L_y (y_len Tryz.underlying78 rfl) rfl (L_y (y_move rfl) rfl (L_nil (hK8 _ _ (T_block ?_)))))); refine T_loop3 [(0, _), (3, _), (12, _), (13, _)] (fun (k : Nat) (tw : Bool) (D : DU) => [(14, .int .i64 (k : Int)), (4, .bool tw)]) (fun (k : Nat) (tw : Bool) (D : DU) => n - k) (fun (k : Nat) (tw : Bool) (D : DU) (w : World) => (k ≤ n ∧ (∀ j e, j < k → l[j]? = some e → mdOk e.md ∧ nmOk e.nm = true) ∧ tw = decide (¬ once (l.take k)) ∧ SM D ((l.take k).map EV.nm)) ∧ St w0 noM [mapR Tryz.prog 9 4 b1 k D] w) 0 false (.map []) (Sub.cons rfl (by first | rfl | exact congrArg (Value.int _) (by omega)) (Sub.cons rfl (by first | rfl | exact congrArg (Value.int _) (by omega)) (Sub.nil _))) (Sub.cons rfl rfl (Sub.cons rfl rfl (Sub.cons rfl rfl (Sub.cons rfl rfl (Sub.nil _))))) ?_ ?_
  ·
   exact ⟨⟨Nat.zero_le _, fun j e hj => absurd hj (by omega), by simp [once], SM.nil⟩, S1⟩
  ·
   intro k tw D w2 hrel; obtain ⟨⟨hk, hok, htw, hsm⟩, S2⟩ := hrel; refine T_seq fun K9 hK9 => T_region (L_y (y_lss rfl rfl) rfl (L_nil (hK9 _ _ (T_seq fun K10 hK10 => ?_)))); refine T_cond rfl (fun h15 => ?_) (fun h15 => ?_)
   ·
    obtain ⟨x, hx⟩ : ∃ x, l[k]? = some x := ⟨_, List.getElem?_eq_getElem (by omega)⟩; refine T_skip (hK10 _ _ (T_seq fun K11 hK11 => T_block (T_seq fun K12 hK12 => T_region (L_y (y_idx Tryz.underlying78 sz149 rfl rfl (S2.rd hl) (Nt.mk (by omega) : Nt _ (k)) (by omega)) rfl (L_y (y_ldp (f := enf) enf_len Tryz.underlying149 rfl sz149 rfl (S2.rd hl) (by omega) hx) rfl (L_o (o_alloc zz149 S2 rfl fun b3 w3 hb3 S3 => L_o (o_stW S3 1 rfl rfl rfl (szE x) ((enf_sz x).trans (by kernel_rfl)) (enf_one x) fun w4 S4 => L_nil (hK12 _ _ (T_seq fun K13 hK13 => T_seq fun K14 hK14 => ?_)))))))))); refine T_region (L_y (y_fieldA 1 Tryz.underlying149 rfl sz3 rfl rfl rfl) rfl (L_y (y_ldc Tryz.underlying3 rfl rfl (((S4.blk 1 rfl).cell _).trans (by rfl))) rfl ?_)); refine L_o (o_call Tryz.func140 rfl rfl (mode_ x.md w4) rfl rfl ?_); rintro e5 w5 ⟨v5, rfl, l5, rfl⟩; refine ⟨_, rfl, (have S5 := S4.like l5; L_y ((by first | exact y_notD rfl | exact y_not rfl)) rfl ?_)⟩; refine L_nil (hK14 _ _ ?_); refine T_cond rfl (fun h21 => ?_) (fun h21 => ?_)
    ·
     have hmd : ¬ mdOk x.md := h21; refine T_seq fun K15 hK15 => T_region (L_y (y_assign rfl) rfl (L_nil (hK15 _ _ (T_ret (ur (ret1 rfl rfl ?_)))))); exact ⟨_, rfl, S5.like0, congrArg (Value.int _) (chkE_one (by omega) ((chk1_at k hok (by omega)).trans (chk1_md hx hmd)) (by decide)).symm⟩
    ·
     have hmd : mdOk x.md := Decidable.not_not.1 h21; refine T_skip (hK13 _ _ (T_seq fun K16 hK16 => T_seq fun K17 hK17 => T_region (L_y (y_fieldA 0 Tryz.underlying149 rfl sz9 rfl rfl rfl) rfl (L_y (y_ldc Tryz.underlying9 rfl rfl (((S5.blk 1 rfl).cell _).trans (by rfl))) rfl ?_)))); refine L_o (o_call Tryz.func142 rfl rfl (pname x.nm w5) rfl rfl ?_); rintro e6 w6 ⟨v6, rfl, l6, rfl⟩; refine ⟨_, rfl, (have S6 := S5.like l6; L_y ((by first | exact y_notD rfl | exact y_not rfl)) rfl ?_)⟩; refine L_nil (hK17 _ _ ?_); refine T_condB rfl (fun h25 => ?_) (fun h25 => ?_)
     ·
      have hnm : nmOk x.nm = false := by simpa using h25
      refine T_seq fun K18 hK18 => T_region (L_y (y_assign rfl) rfl (L_nil (hK18 _ _ (T_ret (ur (ret1 rfl rfl ?_)))))); exact ⟨_, rfl, S6.like0, congrArg (Value.int _) (chkE_one (by omega) ((chk1_at k hok (by omega)).trans (chk1_nm hx hmd hnm)) (by decide)).symm⟩
     ·
      have hnm : nmOk x.nm = true := by simpa using h25
      refine T_skip (hK16 _ _ (T_seq fun K19 hK19 => T_region (L_y (y_move rfl) rfl (L_y (y_move rfl) rfl ?_)))); refine L_splitB 27 rfl (fun h27 => ?_) (fun h27 => ?_)
      ·
       refine L_gno rfl rfl rfl (L_gno rfl rfl rfl (L_gno rfl rfl rfl (L_gno rfl rfl rfl (L_y (y_pk rfl rfl) rfl (L_y (y_assign rfl) rfl (L_nil (hK19 _ _ (T_region (L_y (y_move rfl) rfl (L_y (y_fieldA 0 Tryz.underlying149 rfl sz9 rfl rfl rfl) rfl (L_y (y_ldc Tryz.underlying9 rfl rfl (((S6.blk 1 rfl).cell _).trans (by rfl))) rfl ?_))))))))))); refine L_o (o_mapUpZ S6 0 rfl Tryz.underlying9 Tryz.underlying232 Tryz.underlying4 rfl rfl rfl (Nat.le_trans x.h.2 (by decide)) (by omega) fun w8 S8 => L_nil (hK11 _ _ (T_region (L_y (y_add rfl rfl (i64w (by omega))) rfl (L_y (y_move rfl) rfl (L_nil ?_)))))); have hon2 : true = decide (¬ once (l.take (k + 1))) := by have h8 : ¬ once (l.take k) := of_decide_eq_true (htw.symm.trans h27); rw [eq_comm, decide_eq_true_iff]; exact fun h9 => h8 (once_down h9)
       have S9 := S8.drop (.cons_cons _ (.cons _ (.refl _))); refine ⟨k + 1, _, _, by omega, ⟨⟨by omega, ok_next hok hx hmd hnm, hon2, by rw [take_sn2 hx, List.map_append]; exact hsm.put x.nm⟩, S9⟩, ?_⟩; exact (Sub.cons rfl (by first | rfl | exact congrArg (Value.int _) (by omega)) (Sub.cons rfl (by first | rfl | exact congrArg (Value.int _) (by omega)) (Sub.cons rfl rfl (Sub.cons rfl rfl (Sub.cons rfl rfl (Sub.cons rfl rfl (Sub.nil _)))))))
      ·
       refine L_gyes rfl rfl (L_y (y_move rfl) rfl (L_gyes rfl rfl (L_y (y_fieldA 0 Tryz.underlying149 rfl sz9 rfl rfl rfl) rfl (L_gyes rfl rfl (L_y (y_ldc Tryz.underlying9 rfl rfl (((S6.blk 1 rfl).cell _).trans (by rfl))) rfl ?_))))); refine L_gyes rfl rfl (L_y (y_lookZ (S6.get 0 rfl) Tryz.underlying9 Tryz.underlying232 Tryz.underlying4 zz4 rfl rfl (Nat.le_trans x.h.2 (by decide)) hsm) rfl (L_y (y_pk rfl rfl) rfl (L_y (y_assign rfl) rfl (L_nil (hK19 _ _ (T_region (L_y (y_move rfl) rfl (L_y (y_fieldA 0 Tryz.underlying149 rfl sz9 rfl rfl rfl) rfl (L_y (y_ldc Tryz.underlying9 rfl rfl (((S6.blk 1 rfl).cell _).trans (by rfl))) rfl ?_))))))))); refine L_o (o_mapUpZ S6 0 rfl Tryz.underlying9 Tryz.underlying232 Tryz.underlying4 rfl rfl rfl (Nat.le_trans x.h.2 (by decide)) (by omega) fun w9 S9 => L_nil (hK11 _ _ (T_region (L_y (y_add rfl rfl (i64w (by omega))) rfl (L_y (y_move rfl) rfl (L_nil ?_)))))); have hon2 : hasS ((l.take k).map EV.nm) x.nm = decide (¬ once (l.take (k + 1))) := by rw [Bool.eq_iff_iff, hasS_iff, decide_eq_true_iff]; have h8 : once (l.take k) := Decidable.not_not.1 (of_decide_eq_false (htw.symm.trans h27)); exact ⟨fun h => not_onceT hx h, fun h => Classical.byContradiction fun h9 => h (once_snoc hx h8 h9)⟩
       have S9 := S9.drop (.cons_cons _ (.cons _ (.refl _))); refine ⟨k + 1, _, _, by omega, ⟨⟨by omega, ok_next hok hx hmd hnm, hon2, by rw [take_sn2 hx, List.map_append]; exact hsm.put x.nm⟩, S9⟩, ?_⟩; exact (Sub.cons rfl (by first | rfl | exact congrArg (Value.int _) (by omega)) (Sub.cons rfl (by first | rfl | exact congrArg (Value.int _) (by omega)) (Sub.cons rfl rfl (Sub.cons rfl rfl (Sub.cons rfl rfl (Sub.cons rfl rfl (Sub.nil _)))))))
   ·
    have hkn : k = n := by omega
    rw [List.take_of_length_le (by omega)] at htw; have hc1 : chk1 l = 0 := (chk1_at k hok (by omega)).trans (by rw [List.drop_of_length_le (by omega)]; rfl); refine T_exit (hK7 _ _ (T_seq fun K20 hK20 => T_seq fun K21 hK21 => T_region (L_y (y_move rfl) rfl (L_nil (hK21 _ _ ?_))))); refine T_condB rfl (fun h37 => ?_) (fun h37 => ?_)
    ·
     have hon : ¬ once l := of_decide_eq_true (htw.symm.trans h37); refine T_seq fun K22 hK22 => T_region (L_y (y_assign rfl) rfl (L_nil (hK22 _ _ (T_ret (ur (ret1 rfl rfl ?_)))))); exact ⟨_, rfl, S2.like0, congrArg (Value.int _) (chkE_twice (by omega) hc1 hon).symm⟩
    ·
     have hon : once l := Decidable.not_not.1 (of_decide_eq_false (htw.symm.trans h37)); refine T_skip (hK20 _ _ (T_seq fun K23 hK23 => T_seq fun K24 hK24 => T_region (L_y (y_assign rfl) rfl (L_nil (hK24 _ _ (T_block ?_)))))); refine T_loop1 [(0, _)] (fun (k : Nat) => [(7, .int .i64 (k : Int))]) (fun (k : Nat) => n - k) (fun (k : Nat) (w : World) => ((1 ≤ k ∧ (k ≤ n ∨ k = 1)) ∧ (∀ j x y, j + 1 < k → l[j]? = some x → l[j + 1]? = some y → ltK x y = true)) ∧ St w0 noM [] w) 1 (Sub.cons rfl (by first | rfl | exact congrArg (Value.int _) (by omega)) (Sub.nil _)) (Sub.cons rfl rfl (Sub.nil _)) ?_ ?_
     ·
      exact ⟨⟨⟨Nat.le_refl _, .inr rfl⟩, fun j x y hj => absurd hj (by omega)⟩, S2.drop (.cons _ (.refl _))⟩
     ·
      intro k w10 hrel; obtain ⟨⟨⟨hk1, hk2⟩, hri⟩, S10⟩ := hrel; refine T_seq fun K25 hK25 => T_seq fun K26 hK26 => T_region (L_y (y_move rfl) rfl (L_y (y_move rfl) rfl (L_y (y_len Tryz.underlying78 rfl) rfl (L_y (y_lss rfl rfl) rfl (L_nil (hK26 _ _ ?_)))))); refine T_cond rfl (fun h41 => ?_) (fun h41 => ?_)
      ·
       obtain ⟨x, hx⟩ : ∃ x, l[k - 1]? = some x := ⟨_, List.getElem?_eq_getElem (by omega)⟩; obtain ⟨y, hy⟩ : ∃ y, l[k]? = some y := ⟨_, List.getElem?_eq_getElem (by omega)⟩; refine T_skip (hK25 _ _ (T_seq fun K27 hK27 => T_block (T_seq fun K28 hK28 => T_tail 9 hmix (by kernel_rfl) fun w11 l11 K29 hK29 => have S11 := S10.like l11; HL_y (y_move rfl) rfl (HL_y (y_move rfl) rfl (HL_y (y_sub rfl rfl (i64w (by omega))) rfl (HL_y (y_idx Tryz.underlying78 sz149 rfl rfl (S11.rd hl) (Nt.mk (by omega) : Nt _ (k - 1)) (by omega)) rfl (HL_y (y_ldp (f := enf) enf_len Tryz.underlying149 rfl sz149 rfl (S11.rd hl) (by omega) hx) rfl (HL_y (y_move rfl) rfl (HL_y (y_move rfl) rfl ?_))))))))); refine HL_y (y_idx Tryz.underlying78 sz149 rfl rfl (S11.rd hl) (Nt.mk (by omega) : Nt _ (k)) (by omega)) rfl (HL_y (y_ldp (f := enf) enf_len Tryz.underlying149 rfl sz149 rfl (S11.rd hl) (by omega) hy) rfl (HL_nil (hK29 _ (L_o (o_call Tryz.func143 rfl rfl (order x y w11) rfl rfl ?_))))); rintro e12 w12 ⟨v12, rfl, l12, v53, rfl, hv53⟩; refine ⟨_, rfl, (have S12 := S11.like l12; L_y (y_geq rfl rfl) rfl (L_nil (hK28 _ _ ?_)))⟩; refine T_cond rfl (fun h54 => ?_) (fun h54 => ?_)
       ·
        have hxy : ltK x y = false := by cases h9 : ltK x y with | false => rfl | true => exact absurd (hv53.2 h9) (by omega)
        refine T_seq fun K30 hK30 => T_region (L_y (y_assign rfl) rfl (L_nil (hK30 _ _ (T_ret (ur (ret1 rfl rfl ?_)))))); exact ⟨_, rfl, S12.like0, congrArg (Value.int _) (chkE_ord (by omega) hc1 hon ((risK_at l k hri (by omega)).trans (risK_no hx (by rw [show k - 1 + 1 = k by omega]; exact hy) hxy))).symm⟩
       ·
        have hxy : ltK x y = true := hv53.1 (by omega); refine T_skip (hK27 _ _ (T_region (L_y (y_move rfl) rfl (L_y (y_add rfl rfl (i64w (by omega))) rfl (L_y (y_assign rfl) rfl (L_nil (⟨k + 1, by omega, ⟨⟨⟨by omega, by omega⟩, ris_next hri hx hy (by omega) hxy⟩, S12⟩, ?_⟩))))))); exact (Sub.cons rfl (congrArg (Value.int _) (by omega)) (Sub.cons rfl rfl (Sub.nil _)))
      ·
       refine T_exit (hK23 _ _ (T_seq fun K31 hK31 => T_region (L_y (y_assign rfl) rfl (L_nil (hK31 _ _ (T_ret (ur (ret1 rfl rfl ?_)))))))); exact ⟨_, rfl, S10.like0, congrArg (Value.int _) (chkE_ok (by omega) hc1 hon (risK_fin hri (by omega) (by omega))).symm⟩
end Go.Proofs.YtgaklngnfecdaaaGreat.Tre
namespace Go.Proofs.YtgaklngnfecdaaaGreat.Tre
open Go.RowKit Zk Zx
end Go.Proofs.YtgaklngnfecdaaaGreat.Tre
namespace Go.Proofs.YtgaklngnfecdaaaGreat.Obj
open Go.RowKit Zk Zx
open Oid (idf idf_len)
open Tre (nmOk EV enf enf_len mdOk chkE)
open Rev (cutF cutF_some cutF_none)
theorem bytesOf_nat (l : List UInt8) : Lib.bytesOf (l.map fun c => (c.toNat : Int)) = l := by
  unfold Lib.bytesOf
  rw [List.map_map]
  conv => rhs; rw [← List.map_id l]
  apply List.map_congr_left
  intro c _
  simp
theorem byteC (c : UInt8) : ((c.toNat : Int)).toNat.toUInt8 = c := by rw [Int.toNat_natCast]; exact UInt8.ofNat_toNat
theorem bidx1 (a : Addr) (n c b2 d : Nat) (l : List UInt8) (x : UInt8) (w0 : World) (hb : Rs w0 1 (some a) n c (bL l)) (hs : Rs w0 1 (some ⟨b2, 0, none⟩) 1 d (bL [x])) : Calls Tryz.prog 170 #[.slice (some a) n c, .slice (some ⟨b2, 0, none⟩) 1 d] w0 fun e w' => ∃ u, e = .returned u ∧ Like w0 w' ∧ u = .int .i64 (Lib.indexByte l x) := by
  have hl := hb.lenb
  have hc2 : w0.cell? ⟨b2, 0, none⟩ = some (.int .u8 (x.toNat : Int)) := by
    obtain ⟨ad, v, h1, h2, h3⟩ := hs.at_ (k := 0) (by omega)
    cases h1
    have h4 : v = .int .u8 (x.toNat : Int) := by cases h2; rfl
    rw [h4] at h3
    exact h3
  have h := Any.bytes_Index_one_at Tre.idxB a n c b2 0 d (l.map fun c => (c.toNat : Int)) (x.toNat : Int) w0 (by rw [List.length_map]; exact hl) (fun i hi => by
    obtain ⟨ad, v, h1, h2, h3⟩ := hb.at_ hi
    cases h1
    rw [h3]
    have hx : l[i]? = some l[i] := List.getElem?_eq_getElem (by omega)
    rw [bL_get _ _ _ hx] at h2
    cases h2
    rw [List.getD_eq_getElem?_getD, List.getElem?_map, hx]
    rfl) hc2
  rw [bytesOf_nat, byteC] at h
  refine (show Calls Tryz.prog 170 _ _ _ from h).mono fun e w' ⟨h1, h2⟩ => ?_
  subst h2
  exact ⟨_, h1, Like.refl _, rfl⟩
def bcutV (c : UInt8) (a : Addr) (n cp : Nat) (l : List UInt8) : Value := match cutF c l with
  | some (p, q) => .tuple #[.slice (cutA (some a) cp 0 1) p.length cp, .slice (cutA (some a) cp (p.length + 1) 1) (n - (p.length + 1)) (cp - (p.length + 1)), .bool true]
  | none => .tuple #[.slice (some a) n cp, .slice none 0 0, .bool false]
theorem bcutV_some {c : UInt8} {a : Addr} {n cp : Nat} {l p q : List UInt8} (h : cutF c l = some (p, q)) : bcutV c a n cp l = .tuple #[.slice (cutA (some a) cp 0 1) p.length cp, .slice (cutA (some a) cp (p.length + 1) 1) (n - (p.length + 1)) (cp - (p.length + 1)), .bool true] := by unfold bcutV; rw [h]
theorem bcutV_none {c : UInt8} {a : Addr} {n cp : Nat} {l : List UInt8} (h : cutF c l = none) : bcutV c a n cp l = .tuple #[.slice (some a) n cp, .slice none 0 0, .bool false] := by unfold bcutV; rw [h]
theorem idx_some {c : UInt8} {l p q : List UInt8} (h : cutF c l = some (p, q)) : Lib.indexByte l c = (p.length : Int) := by have := Rev.idx_cut c l; rw [h] at this; exact this
theorem idx_none {c : UInt8} {l : List UInt8} (h : cutF c l = none) : Lib.indexByte l c = -1 := by have := Rev.idx_cut c l; rw [h] at this; exact this
theorem bcut1 (a : Addr) (n c b2 d : Nat) (l : List UInt8) (x : UInt8) (w0 : World) (hb : Rs w0 1 (some a) n c (bL l)) (hs : Rs w0 1 (some ⟨b2, 0, none⟩) 1 d (bL [x])) (p q : List UInt8) (hcf : cutF x l = some (p, q)) :
    Calls Tryz.prog 141 #[.slice (some a) n c, .slice (some ⟨b2, 0, none⟩) 1 d] w0 fun e w' => ∃ u, e = .returned u ∧ Like w0 w' ∧ u = bcutV x a n c l := by
 refine enter1 (env := [(0, .slice (some a) n c), (1, .slice (some ⟨b2, 0, none⟩) 1 d)]) [.slice (some a) n c, .slice (some ⟨b2, 0, none⟩) 1 d] Tryz.func141 rfl Tryz.ntmps141 rfl rfl ?_; have hl := hb.lenb; have hcap := hb.cap; have hmax := hb.max; have hlp : l.length = p.length + 1 + q.length := by have h9 := (cutF_some hcf).1; rw [h9, List.length_append, List.length_cons]; omega
 have S0 := St.start w0 noM; refine T_seq fun K1 hK1 => T_region (L_y (y_assign rfl) rfl (L_y (y_assign rfl) rfl (L_y (y_assign rfl) rfl (L_nil (hK1 _ _ (T_seq fun K2 hK2 => T_seq fun K3 hK3 => T_region (L_y (y_move rfl) rfl (L_y (y_move rfl) rfl (L_o (o_call Tryz.func170 rfl rfl (bidx1 a n c b2 d l x w0 (S0.rd hb) (S0.rd hs)) rfl rfl ?_)))))))))); rintro e1 w1 ⟨v1, rfl, l1, rfl⟩; refine ⟨_, rfl, ?_⟩; have S1 := S0.like l1; rw [idx_some hcf]; refine L_y (y_assign rfl) rfl (L_nil (hK3 _ _ (T_seq fun K4 hK4 => T_region (L_y (y_move rfl) rfl (L_y (y_geq rfl rfl) rfl (L_nil (hK4 _ _ ?_))))))); refine T_cond rfl (fun h12 => ?_) (fun h12 => ?_)
 ·
  refine T_seq fun K5 hK5 => T_drawnL [(0, true), (1, true), (2, true), (3, true), (4, true), (5, true), (6, true), (7, true), (8, true), (9, true), (10, true), (11, true)] hmix (by kernel_rfl) fun w2 l2 => have S2 := S1.like l2; DL_y rfl (y_move rfl) rfl (DL_y rfl (y_move rfl) rfl (DL_y rfl (y_sliceH Tryz.underlying22 sz5 rfl rfl (Nt.mk rfl : Nt _ (p.length)) (by omega)) rfl (DL_y rfl (y_move rfl) rfl (DL_y rfl (y_move rfl) rfl (DL_y rfl (y_move rfl) rfl (DL_y rfl (y_len Tryz.underlying22 rfl) rfl (DL_y rfl (y_add rfl rfl (i64w (by omega))) rfl (DL_y rfl (y_sliceL Tryz.underlying22 sz5 rfl rfl (Nt.mk (by omega) : Nt _ (p.length + 1)) (by omega)) rfl (DL_y rfl (y_assign rfl) rfl (DL_y rfl (y_assign rfl) rfl ?_)))))))))); refine DL_y rfl (y_assign rfl) rfl (DL_nil (hK5 _ _ (T_ret (ur (ret3 rfl rfl rfl rfl ?_))))); exact ⟨_, rfl, S2.like0, (bcutV_some hcf).symm⟩
 ·
  exact absurd (by omega) h12
theorem bcut0 (a : Addr) (n c b2 d : Nat) (l : List UInt8) (x : UInt8) (w0 : World) (hb : Rs w0 1 (some a) n c (bL l)) (hs : Rs w0 1 (some ⟨b2, 0, none⟩) 1 d (bL [x])) (hcf : cutF x l = none) :
    Calls Tryz.prog 141 #[.slice (some a) n c, .slice (some ⟨b2, 0, none⟩) 1 d] w0 fun e w' => ∃ u, e = .returned u ∧ Like w0 w' ∧ u = bcutV x a n c l := by
 refine enter1 (env := [(0, .slice (some a) n c), (1, .slice (some ⟨b2, 0, none⟩) 1 d)]) [.slice (some a) n c, .slice (some ⟨b2, 0, none⟩) 1 d] Tryz.func141 rfl Tryz.ntmps141 rfl rfl ?_; have hl := hb.lenb; have hcap := hb.cap; have hmax := hb.max; have S0 := St.start w0 noM; refine T_seq fun K1 hK1 => T_region (L_y (y_assign rfl) rfl (L_y (y_assign rfl) rfl (L_y (y_assign rfl) rfl (L_nil (hK1 _ _ (T_seq fun K2 hK2 => T_seq fun K3 hK3 => T_region (L_y (y_move rfl) rfl (L_y (y_move rfl) rfl (L_o (o_call Tryz.func170 rfl rfl (bidx1 a n c b2 d l x w0 (S0.rd hb) (S0.rd hs)) rfl rfl ?_)))))))))); rintro e1 w1 ⟨v1, rfl, l1, rfl⟩; refine ⟨_, rfl, ?_⟩; have S1 := S0.like l1; rw [idx_none hcf]; refine L_y (y_assign rfl) rfl (L_nil (hK3 _ _ (T_seq fun K4 hK4 => T_region (L_y (y_move rfl) rfl (L_y (y_geq rfl rfl) rfl (L_nil (hK4 _ _ ?_))))))); refine T_cond rfl (fun h12 => ?_) (fun h12 => ?_)
 ·
  omega
 ·
  refine T_skip (hK2 _ _ (T_seq fun K5 hK5 => T_region (L_y (y_move rfl) rfl (L_y (y_assign rfl) rfl (L_y (y_assign rfl) rfl (L_y (y_assign rfl) rfl (L_nil (hK5 _ _ (T_ret (ur (ret3 rfl rfl rfl rfl ?_))))))))))); exact ⟨_, rfl, S1.like0, (bcutV_none hcf).symm⟩
theorem bcut (a : Addr) (n c b2 d : Nat) (l : List UInt8) (x : UInt8) (w0 : World) (hb : Rs w0 1 (some a) n c (bL l)) (hs : Rs w0 1 (some ⟨b2, 0, none⟩) 1 d (bL [x])) : Calls Tryz.prog 141 #[.slice (some a) n c, .slice (some ⟨b2, 0, none⟩) 1 d] w0 fun e w' => ∃ u, e = .returned u ∧ Like w0 w' ∧ u = bcutV x a n c l := by
  cases h : cutF x l with
  | none => exact bcut0 a n c b2 d l x w0 hb hs h
  | some pq => exact bcut1 a n c b2 d l x w0 hb hs pq.1 pq.2 h
end Go.Proofs.YtgaklngnfecdaaaGreat.Obj
namespace Go.Proofs.YtgaklngnfecdaaaGreat.Zx
open Go.RowKit Zk
section
variable {P : Program} {N : Nat} {Q : Exit → Env → World → Prop} {env : Env} {w w0 : World} {M : Nat → Prop} {rs : List Res} {K : Env → World → Prop} {d : Tmp} {ty : TypeId} {pos : String} {after : Array Edge} {g : Option (Nat × Bool)}
theorem o_makeN {t e : TypeId} {z : Value} {size bytes : Nat} {x y : Operand} {k k' : IntKind} {jn jc : Int} {n c : Nat} (TE : Elem P t e z size bytes) (xs : List Value) (hxl : xs.length = n * size) (hxs : ∀ i, i < n * size → xs[i]? = z.cells[i % size]?) (hs0 : 0 < size) (S : St w0 M rs w) (hx : ev env x = some (.int k jn)) (hy : ev env y = some (.int k' jc)) (hn : Nt jn n) (hc : Nt jc c) (hd : Nat.blt d N = true)
    (hnc : n ≤ c) (hbytes : c * bytes ≤ 281474976710656) (hcm : c ≤ 9223372036854775807)
    (h : ∀ b w', St w0 M (rs ++ [row e size (some ⟨b, 0, none⟩) n c xs]) w' → K ((d, .slice (some ⟨b, 0, none⟩) n c) :: env) w') :
    O P N Q ⟨some d, .makeSlice t x y, ty, pos, after, g⟩ env w K := fun a ha => by
  have e1 := hn.eq
  have e2 := hc.eq
  subst e1; subst e2
  obtain ⟨i, hi, hz', hsize, hby⟩ := info_parts TE.hi
  have hb : (i.bytes : Int) * (c : Int) ≤ 281474976710656 := by
    have h : ((i.bytes * c : Nat) : Int) ≤ 281474976710656 := by rw [hby, Nat.mul_comm]; omega
    rwa [Int.natCast_mul] at h
  have hr := run_make (P := P) w t e i z TE.ht hi hz' k k' n c (by omega) (by omega) hb (by omega)
  simp only [Int.toNat_natCast] at hr
  unfold Oper.wp execOp
  simp only [ha.eval hx, ha.eval hy, Sem.run_bind, hr, Result.andThen_ok, Sem.run_pure]
  have hzc : z.cells.size = size := TE.hzs
  have hle : n * size ≤ c * size := Nat.mul_le_mul_right _ hnc
  refine ⟨_, ha.put d _ hd, h _ _ (S.new (like_alloc w _) _ ?_ fun i hi => ?_)⟩
  · refine ⟨hxl, .inr ⟨w.heap.size, c, _, rfl, Nat.zero_le _, heap_alloc_new w _, hnc, by unfold maxLen; omega, ?_, ?_⟩⟩
    · rw [hsize]; simp [madeCells]
    · rw [hsize]
      apply List.ext_getElem?
      intro j
      rw [List.getElem?_take]
      split
      · rename_i hj
        rw [hxs j hj, Array.getElem?_toList, Array.getElem?_eq_getElem (by simp [madeCells]; omega)]
        have hm : j % size < z.cells.size := by rw [hzc]; exact Nat.mod_lt _ hs0
        rw [Array.getElem?_eq_getElem hm]
        simp only [madeCells, Array.getElem_map, Array.getElem_range, hzc]
        rw [getElem!_pos z.cells (j % size) hm]
      · rename_i hj
        exact (List.getElem?_eq_none (by rw [hxl]; omega)).symm
  · change (Value.slice (some ⟨w.heap.size, 0, none⟩) n c).ownBlock = some i at hi
    simp only [Value.ownBlock, Option.some.injEq] at hi
    subst hi
    exact ⟨Nat.le_refl _, by simp⟩
variable {dst : Option Tmp}
end
end Go.Proofs.YtgaklngnfecdaaaGreat.Zx
namespace Go.Proofs.YtgaklngnfecdaaaGreat.Zx
open Go.RowKit Zk
theorem St.adoptS {w0 w w' : World} {M : Nat → Prop} {rs qs : List Res} (S : St w0 M rs w) (T : St w noM qs w') : St w0 M (rs ++ qs) w' := by
  have S' := S.like T.like0
  refine ⟨S'.os, S'.tape, S'.output, S'.size, S'.old, fun q hq => ?_, ?_⟩
  · rcases List.mem_append.1 hq with hq | hq
    · exact S'.res q hq
    · refine ⟨(T.res q hq).1, fun i hi => ?_⟩
      have h := (T.res q hq).2 i hi
      refine ⟨h.1, .inl ?_⟩
      rcases h.2 with h2 | h2
      · exact Nat.le_trans S.size h2
      · exact h2.elim
  · rw [List.pairwise_append]
    refine ⟨S'.apart, T.apart, fun q hq s hs i hi hsi => ?_⟩
    have h1 := ((S.res q hq).2 i hi).1
    have h2 := ((T.res s hs).2 i hsi).2
    rcases h2 with h2 | h2
    · omega
    · exact h2
section
variable {P : Program} {N : Nat} {Q : Exit → Env → World → Prop} {env : Env} {w w0 : World}
variable {S : World → Prop} {dst : Option Tmp} {ty : TypeId} {pos : String} {after : Array Edge} {gd : Option (Nat × Bool)}
end
end Go.Proofs.YtgaklngnfecdaaaGreat.Zx
namespace Go.Proofs.YtgaklngnfecdaaaGreat.Zx
open Go.RowKit Zk
section
variable {P : Program} {env : Env} {S : World → Prop} {dst : Option Tmp} {ty : TypeId} {pos : String} {after : Array Edge} {g : Option (Nat × Bool)}
end
end Go.Proofs.YtgaklngnfecdaaaGreat.Zx
namespace Go.Proofs.YtgaklngnfecdaaaGreat.Zx
open Go.RowKit Zk
section
variable {P : Program} {N : Nat} {Q : Exit → Env → World → Prop} {env : Env} {w w0 : World}
theorem retctt {fn : Func} {R : Ending → World → Prop} {p q r : Tmp} {lt b t : Nat} {cs : Array Value} {d : TypeDesc} {v u : Value} (hr : fn.results = #[.cell p lt, .tmp q, .tmp r]) (hp : look env p = some (.pointer (some ⟨b, 0, none⟩))) (hq : look env q = some v) (hq2 : look env r = some u) (hb : Blk w b t cs) (hd : P.underlying lt = some d) (hrow : d.isRow = true)
    (hsz : (P.info? lt).map (·.size) = some cs.size) (h : R (.returned (.tuple #[.agg cs, v, u])) w) (hd0 : dfs env = [] := by rfl) : bodyQ P fn R .ret env w :=
  ⟨hd0, _, fun N a ha => by rw [resB_tt hr a.tmps (ha.getD hp) hb d hd hrow hsz, ha.getD hq, ha.getD hq2], h⟩
end
end Go.Proofs.YtgaklngnfecdaaaGreat.Zx
namespace Go.Proofs.YtgaklngnfecdaaaGreat.Obj
open Go.RowKit Zk Zx
open Oid (idf idf_len)
open Tre (nmOk EV enf enf_len mdOk chkE)
open Rev (cutF cutF_some cutF_none)
theorem rs_tail {w : World} {A : Option Addr} {n c : Nat} {b : List UInt8} (k : Nat) (h : Rs w 1 A n c (bL b)) (h1 : k ≤ n) : Rs w 1 (cutA A c k 1) (n - k) (c - k) (bL (b.drop k)) := by
  have h2 := h.cutb (l := k) (u := n) h1 (Nat.le_refl _)
  rwa [List.take_of_length_le (by rw [List.length_drop, h.lenb]; omega)] at h2
theorem cutA_some (a : Addr) (c l size : Nat) : ∃ a2, cutA (some a) c l size = some a2 := by
  unfold cutA
  split
  · exact ⟨a, rfl⟩
  · exact ⟨_, rfl⟩
def ef (nm : ByteArray) (md : Int) (id : List UInt8) : List Value := .string nm :: .int .i64 md :: bL id
theorem ef_en (y : EV) : enf y = ef y.nm y.md y.id := rfl
theorem ef_len (nm : ByteArray) (md : Int) {id : List UInt8} (h : id.length = 32) : (ef nm md id).length = 34 := by simp [ef, h]
theorem ef_one (nm : ByteArray) (md : Int) (id : List UInt8) : ∀ u ∈ ef nm md id, u.oneCell' = true := fun u hu => by
  rcases List.mem_cons.1 hu with rfl | hu
  · rfl
  · rcases List.mem_cons.1 hu with rfl | hu
    · rfl
    · exact bL_one _ u hu
theorem ef_whole (nm : ByteArray) (md : Int) {id : List UInt8} (h : id.length = 32) : ((ef nm md id).toArray.toList.drop 0).take 34 = ef nm md id ∧ (ef nm md id).length = 34 := ⟨by rw [List.drop_zero, List.toList_toArray]; exact List.take_of_length_le (by rw [ef_len nm md h]; omega), ef_len nm md h⟩
theorem ef_0 (nm : ByteArray) (md : Int) (id : List UInt8) : (ef nm md id).toArray[0]? = some (.string nm) := rfl
theorem ef_1 (nm : ByteArray) (md : Int) (id : List UInt8) : (ef nm md id).toArray[1]? = some (.int .i64 md) := rfl
theorem ef_set0 {nm nm' : ByteArray} {md : Int} {id : List UInt8} : (ef nm md id).toArray.setIfInBounds 0 (.string nm') = (ef nm' md id).toArray := by rw [List.setIfInBounds_toArray]; rfl
theorem ef_set1 {nm : ByteArray} {md md' : Int} {id : List UInt8} : (ef nm md id).toArray.setIfInBounds 1 (.int .i64 md') = (ef nm md' id).toArray := by rw [List.setIfInBounds_toArray]; rfl
theorem ef_cp {nm : ByteArray} {md : Int} {id z : List UInt8} (h : id.length = 32) (hz : z.length = 32) : ((ef nm md id).toArray.toList.take 2 ++ bL z ++ (ef nm md id).toArray.toList.drop (2 + (bL z).length)).toArray = (ef nm md z).toArray := by
  rw [List.drop_of_length_le (by rw [List.toList_toArray, ef_len nm md h, length_bL]; omega), List.append_nil]
  rfl
def zB : List UInt8 := List.replicate 32 0
theorem zB_len : zB.length = 32 := rfl
def oneC : List UInt8 → Int × List UInt8 × List UInt8
  | [] => (16, [], [])
  | m :: r => if ¬ ((m.toNat : Int) - 48 = 1 ∨ (m.toNat : Int) - 48 = 2 ∨ (m.toNat : Int) - 48 = 3) then (16, [], []) else match r with
    | [] => (10, [], [])
    | s :: t => if s ≠ 32 then (16, [], []) else match cutF 0 t with
      | none => if nmOk ⟨t.toArray⟩ = false then (15, [], []) else (10, [], [])
      | some (p, q) => if nmOk ⟨p.toArray⟩ = false then (15, [], []) else if q.length < 32 then (10, [], []) else (0, p, q.drop 32)
def OneV (a : Addr) (n c : Nat) (b : List UInt8) (u : Value) : Prop := ∃ (nm : ByteArray) (md : Int) (id : List UInt8) (A : Option Addr) (k cp : Nat), id.length = 32 ∧ u = .tuple #[.agg (ef nm md id).toArray, .slice A k cp, .int .i64 (oneC b).1] ∧
  ((oneC b).1 = 0 → nm = ⟨(oneC b).2.1.toArray⟩ ∧ md = ((b.getD 0 0).toNat : Int) - 48 ∧ ∀ W, Rs W 1 (some a) n c (bL b) → Rs W 1 A k cp (bL (oneC b).2.2))
theorem OneV.bad {a : Addr} {n c : Nat} {b : List UInt8} {nm : ByteArray} {md e : Int} {id : List UInt8} (hi : id.length = 32) (he : (oneC b).1 = e) (h0 : e ≠ 0) : OneV a n c b (.tuple #[.agg (ef nm md id).toArray, .slice none 0 0, .int .i64 e]) :=
  ⟨nm, md, id, none, 0, 0, hi, by rw [he], fun h => absurd (he.symm.trans h) h0⟩
section
variable {m s : UInt8} {t p q : List UInt8}
abbrev mok (m : UInt8) : Prop := (m.toNat : Int) - 48 = 1 ∨ (m.toNat : Int) - 48 = 2 ∨ (m.toNat : Int) - 48 = 3
theorem one_16 {r : List UInt8} (h : ¬ mok m) : (oneC (m :: r)).1 = 16 := by unfold oneC; simp only []; rw [if_pos h]
theorem one_10 (h : mok m) : (oneC [m]).1 = 10 := by unfold oneC; simp only []; rw [if_neg (fun q => q h)]
theorem one_16b (h : mok m) (hs : s ≠ 32) : (oneC (m :: s :: t)).1 = 16 := by unfold oneC; simp only []; rw [if_neg (fun q => q h)]; (try simp only []); rw [if_pos hs]
theorem one_n15 (h : mok m) (hc : cutF 0 t = none) (hn : nmOk ⟨t.toArray⟩ = false) : (oneC (m :: 32 :: t)).1 = 15 := by unfold oneC; simp only []; rw [if_neg (fun q => q h)]; (try simp only []); rw [if_neg (fun q => q rfl), hc]; (try simp only []); rw [if_pos hn]
theorem one_n10 (h : mok m) (hc : cutF 0 t = none) (hn : ¬ nmOk ⟨t.toArray⟩ = false) : (oneC (m :: 32 :: t)).1 = 10 := by unfold oneC; simp only []; rw [if_neg (fun q => q h)]; (try simp only []); rw [if_neg (fun q => q rfl), hc]; (try simp only []); rw [if_neg hn]
theorem one_s15 (h : mok m) (hc : cutF 0 t = some (p, q)) (hn : nmOk ⟨p.toArray⟩ = false) : (oneC (m :: 32 :: t)).1 = 15 := by unfold oneC; simp only []; rw [if_neg (fun q => q h)]; (try simp only []); rw [if_neg (fun q => q rfl), hc]; (try simp only []); rw [if_pos hn]
theorem one_s10 (h : mok m) (hc : cutF 0 t = some (p, q)) (hn : ¬ nmOk ⟨p.toArray⟩ = false) (hq : q.length < 32) : (oneC (m :: 32 :: t)).1 = 10 := by unfold oneC; simp only []; rw [if_neg (fun q => q h)]; (try simp only []); rw [if_neg (fun q => q rfl), hc]; (try simp only []); rw [if_neg hn, if_pos hq]
theorem one_s0 (h : mok m) (hc : cutF 0 t = some (p, q)) (hn : ¬ nmOk ⟨p.toArray⟩ = false) (hq : ¬ q.length < 32) : oneC (m :: 32 :: t) = (0, p, q.drop 32) := by unfold oneC; simp only []; rw [if_neg (fun q => q h)]; (try simp only []); rw [if_neg (fun q => q rfl), hc]; (try simp only []); rw [if_neg hn, if_neg hq]
end
theorem one_less {b : List UInt8} (h : (oneC b).1 = 0) : (oneC b).2.2.length + 34 ≤ b.length := by
  unfold oneC at h ⊢
  match b with
  | [] => cases h
  | m :: r =>
    simp only [] at h ⊢
    split at h
    · cases h
    · rename_i h1
      rw [if_neg h1]
      match r with
      | [] => cases h
      | s :: t =>
        simp only [] at h ⊢
        split at h
        · cases h
        · rename_i h2
          rw [if_neg h2]
          cases hc : cutF 0 t with
          | none =>
            rw [hc] at h
            simp only [] at h
            split at h <;> cases h
          | some pq =>
            obtain ⟨p, q⟩ := pq
            rw [hc] at h
            simp only [] at h ⊢
            split at h
            · cases h
            · rename_i h3
              rw [if_neg h3]
              split at h
              · cases h
              · rename_i h4
                rw [if_neg h4]
                have h9 := (cutF_some hc).1
                simp only [List.length_cons, List.length_drop]
                rw [h9, List.length_append, List.length_cons]
                omega
end Go.Proofs.YtgaklngnfecdaaaGreat.Obj
namespace Go.Proofs.YtgaklngnfecdaaaGreat.Obj
open Go.RowKit Zk Zx
open Oid (idf idf_len)
open Tre (nmOk EV enf enf_len mdOk chkE)
open Rev (cutF cutF_some cutF_none)
theorem OneV.good {a : Addr} {n c : Nat} {b p q : List UInt8} {nm : ByteArray} {md : Int} {id : List UInt8} {A : Option Addr} {k cp : Nat} (hi : id.length = 32) (e : oneC b = (0, p, q)) (hn : nm = ⟨p.toArray⟩) (hm : md = ((b.getD 0 0).toNat : Int) - 48) (hR : ∀ W, Rs W 1 (some a) n c (bL b) → Rs W 1 A k cp (bL q)) : OneV a n c b (.tuple #[.agg (ef nm md id).toArray, .slice A k cp, .int .i64 0]) :=
  ⟨nm, md, id, A, k, cp, hi, by rw [e], fun _ => ⟨by rw [e]; exact hn, hm, fun W hW => by rw [e]; exact hR W hW⟩⟩
theorem cut_drop {t p q : List UInt8} (h : cutF 0 t = some (p, q)) : t.drop (p.length + 1) = q ∧ t.take p.length = p ∧ t.length = p.length + 1 + q.length := by
  have h9 := (cutF_some h).1
  refine ⟨?_, ?_, ?_⟩
  · rw [h9, ← List.drop_drop, List.drop_append_of_le_length (Nat.le_refl _), List.drop_of_length_le (Nat.le_refl _)]; rfl
  · rw [h9, List.take_append_of_le_length (Nat.le_refl _), List.take_of_length_le (Nat.le_refl _)]
  · rw [h9, List.length_append, List.length_cons]; omega
theorem bL_takeN (l : List UInt8) (k : Nat) : (bL l).take k = bL (l.take k) := by unfold bL; rw [List.map_take]
theorem nat32 {s : UInt8} (h : ¬ (s.toNat : Int) ≠ 32) : s = 32 := UInt8.toNat_inj.1 (by show s.toNat = 32; omega)
theorem one1 (a : Addr) (n c : Nat) (m : UInt8) (r : List UInt8) (w0 : World) (hb : Rs w0 1 (some a) n c (bL (m :: r))) (p q : List UInt8) (hcf0 : cutF 0 ((m :: r).drop 2) = some (p, q)) :
    Calls Tryz.prog 106 #[.slice (some a) n c] w0 fun e w' => ∃ u, e = .returned u ∧ Like w0 w' ∧ OneV a n c (m :: r) u := by
 refine enter1 (env := [(0, .slice (some a) n c)]) [.slice (some a) n c] Tryz.func106 rfl Tryz.ntmps106 rfl rfl ?_; have hl := hb.lenb; have hcap := hb.cap; have hmax := hb.max; have hm9 := m.toNat_lt; have hl1 : 1 ≤ n := by rw [← hl]; simp
 have S0 := St.start w0 noM; refine T_seq fun K1 hK1 => T_region (L_o (o_alloc zz149 S0 rfl fun b1 w1 hb1 S1 => have S2 : Zx.St w0 noM [blk b1 149 (ef ⟨#[]⟩ 0 zB).toArray] w1 := S1.cast (by kernel_rfl); L_y (y_assign rfl) rfl (L_y (y_assign rfl) rfl (L_nil (hK1 _ _ (T_seq fun K2 hK2 => T_region (L_o (o_alloc zz149 S2 rfl fun b3 w3 hb3 S3 => have S4 : Zx.St w0 noM [blk b1 149 (ef ⟨#[]⟩ 0 zB).toArray, blk b3 149 (ef ⟨#[]⟩ 0 zB).toArray] w3 := S3.cast (by kernel_rfl); L_nil (hK2 _ _ ?_))))))))); refine T_seq fun K3 hK3 => T_region (L_y (y_move rfl) rfl (L_y (y_idx Tryz.underlying22 sz5 rfl rfl (by first | exact S4.rd hb) inferInstance (by omega)) rfl ?_)); refine L_y (y_ldr Tryz.underlying5 rfl rfl (S4.rd hb) (bL_get _ _ _ (rfl : (m :: r)[0]? = some m))) rfl (L_y (y_conv is5 Tryz.underlying3 rfl (i64w (by omega))) rfl (L_y (y_sub rfl rfl (i64w (by omega))) rfl (L_y (y_fieldA 1 Tryz.underlying149 rfl sz3 rfl rfl rfl) rfl (L_o (o_st1 S4 1 rfl rfl rfl rfl sz3 (by rw [List.size_toArray, ef_len _ _ zB_len]; omega) fun w5 S5 => ?_))))); have S90 := S5.blkc 1 rfl ef_set1; refine L_nil (hK3 _ _ (T_seq fun K4 hK4 => T_seq fun K5 hK5 => T_region (L_y (y_fieldA 1 Tryz.underlying149 rfl sz3 rfl rfl rfl) rfl (L_y (y_ldc Tryz.underlying3 rfl rfl (((S90.blk 1 rfl).cell _).trans (ef_1 _ _ _))) rfl (L_o (o_call Tryz.func140 rfl rfl (Tre.mode_ ((m.toNat : Int) - 48) w5) rfl rfl ?_)))))); rintro e6 w6 ⟨v6, rfl, l6, rfl⟩; refine ⟨_, rfl, (have S6 := S90.like l6; L_y ((by first | exact y_notD rfl | exact y_not rfl)) rfl ?_)⟩; refine L_nil (hK5 _ _ ?_); refine T_cond rfl (fun h18 => ?_) (fun h18 => ?_)
 ·
  refine T_seq fun K6 hK6 => T_region (L_y (y_ldW Tryz.underlying149 rfl sz149 rfl (S6.blk 1 rfl) (ef_whole _ _ (by first | exact zB_len | exact hq32))) rfl ?_); refine L_o (o_stW S6 0 rfl rfl rfl (by rw [List.size_toArray, ef_len _ _ (by first | exact zB_len | exact hq32)]; exact sz149) (by first | (rw [List.size_toArray, List.size_toArray, ef_len _ _ (by first | exact zB_len | exact hq32), ef_len _ _ zB_len]; done) | (rw [List.size_toArray, ef_len _ _ (by first | exact zB_len | exact hq32)]; rfl)) (fun u hu => ef_one _ _ _ u (by rw [List.toList_toArray] at hu; exact hu)) fun w7 S7 => ?_); refine L_y (y_assign rfl) rfl (L_y (y_assign rfl) rfl (L_nil (hK6 _ _ (T_ret (ur (retctt rfl rfl rfl rfl (S7.blk 0 rfl) Tryz.underlying149 rfl (by rw [List.size_toArray, ef_len _ _ (by first | exact zB_len | exact hq32)]; exact sz149) ?_)))))); exact ⟨_, rfl, S7.like0, OneV.bad zB_len (one_16 h18) (by decide)⟩
 ·
  refine T_skip (hK4 _ _ (T_seq fun K7 hK7 => T_seq fun K8 hK8 => T_region (L_y (y_move rfl) rfl (L_y (y_len Tryz.underlying22 rfl) rfl (L_y (y_lss rfl rfl) rfl (L_nil (hK8 _ _ ?_))))))); refine T_cond rfl (fun h22 => ?_) (fun h22 => ?_)
  ·
   refine T_seq fun K9 hK9 => T_region (L_y (y_ldW Tryz.underlying149 rfl sz149 rfl (S6.blk 1 rfl) (ef_whole _ _ (by first | exact zB_len | exact hq32))) rfl ?_); refine L_o (o_stW S6 0 rfl rfl rfl (by rw [List.size_toArray, ef_len _ _ (by first | exact zB_len | exact hq32)]; exact sz149) (by first | (rw [List.size_toArray, List.size_toArray, ef_len _ _ (by first | exact zB_len | exact hq32), ef_len _ _ zB_len]; done) | (rw [List.size_toArray, ef_len _ _ (by first | exact zB_len | exact hq32)]; rfl)) (fun u hu => ef_one _ _ _ u (by rw [List.toList_toArray] at hu; exact hu)) fun w8 S8 => ?_); refine L_y (y_assign rfl) rfl (L_y (y_assign rfl) rfl (L_nil (hK9 _ _ (T_ret (ur (retctt rfl rfl rfl rfl (S8.blk 0 rfl) Tryz.underlying149 rfl (by rw [List.size_toArray, ef_len _ _ (by first | exact zB_len | exact hq32)]; exact sz149) ?_)))))); have hr : r = [] := by cases r with | nil => rfl | cons s t => simp at hl; omega
   subst hr; exact ⟨_, rfl, S8.like0, OneV.bad zB_len (one_10 (Classical.not_not.1 h18)) (by decide)⟩
  ·
   obtain ⟨s, t, rfl⟩ : ∃ s t, r = s :: t := by cases r with | nil => (simp at hl; omega) | cons s t => exact ⟨s, t, rfl⟩
   have hs9 := s.toNat_lt; have hcf : cutF 0 t = some (p, q) := hcf0; refine T_skip (hK7 _ _ (T_seq fun K10 hK10 => T_seq fun K11 hK11 => T_region (L_y (y_move rfl) rfl (L_y (y_idx Tryz.underlying22 sz5 rfl rfl (by first | exact S6.rd hb) inferInstance (by omega)) rfl ?_)))); refine L_y (y_ldr Tryz.underlying5 rfl rfl (S6.rd hb) (bL_get _ _ _ (rfl : (m :: s :: t)[1]? = some s))) rfl (L_y (y_neq rfl rfl) rfl (L_nil (hK11 _ _ ?_))); refine T_cond rfl (fun h27 => ?_) (fun h27 => ?_)
   ·
    refine T_seq fun K12 hK12 => T_region (L_y (y_ldW Tryz.underlying149 rfl sz149 rfl (S6.blk 1 rfl) (ef_whole _ _ (by first | exact zB_len | exact hq32))) rfl ?_); refine L_o (o_stW S6 0 rfl rfl rfl (by rw [List.size_toArray, ef_len _ _ (by first | exact zB_len | exact hq32)]; exact sz149) (by first | (rw [List.size_toArray, List.size_toArray, ef_len _ _ (by first | exact zB_len | exact hq32), ef_len _ _ zB_len]; done) | (rw [List.size_toArray, ef_len _ _ (by first | exact zB_len | exact hq32)]; rfl)) (fun u hu => ef_one _ _ _ u (by rw [List.toList_toArray] at hu; exact hu)) fun w9 S9 => ?_); refine L_y (y_assign rfl) rfl (L_y (y_assign rfl) rfl (L_nil (hK12 _ _ (T_ret (ur (retctt rfl rfl rfl rfl (S9.blk 0 rfl) Tryz.underlying149 rfl (by rw [List.size_toArray, ef_len _ _ (by first | exact zB_len | exact hq32)]; exact sz149) ?_)))))); exact ⟨_, rfl, S9.like0, OneV.bad zB_len (one_16b (Classical.not_not.1 h18) (fun e => h27 (by rw [e]; rfl))) (by decide)⟩
   ·
    obtain rfl := nat32 h27; refine T_skip (hK10 _ _ (T_seq fun K13 hK13 => T_region (L_y (y_move rfl) rfl (L_y (y_sliceL Tryz.underlying22 sz5 rfl rfl inferInstance (by omega)) rfl (L_o (o_bsl [_] te22 zz5 S6 rfl rfl rfl rfl rfl rfl rfl rfl fun b10 w10 S10 => ?_)))))); obtain ⟨a2, ha2⟩ := cutA_some a c 2 1; rw [ha2]; have hb2 : Rs w0 1 (some a2) (n - 2) (c - 2) (bL t) := by rw [← ha2]; exact rs_tail 2 hb (by omega)
    have hcp := hb2.cap; have hln := hb2.lenb; refine L_o (o_call Tryz.func141 rfl rfl (bcut a2 (n - 2) (c - 2) _ 1 t 0 w10 (S10.rd hb2) (S10.row 2 rfl)) rfl rfl ?_); rintro e11 w11 ⟨v11, rfl, l11, rfl⟩; refine ⟨_, rfl, ?_⟩; have S11 := S10.like l11; rw [bcutV_some hcf]; obtain ⟨hcd, hct, hcl⟩ := cut_drop hcf; have hbq : Rs w0 1 (cutA (some a2) (c - 2) (p.length + 1) 1) (n - 2 - (p.length + 1)) (c - 2 - (p.length + 1)) (bL q) := by have h9 := rs_tail (p.length + 1) hb2 (by omega); rw [hcd] at h9; exact h9
    have hbp : Rs w0 1 (cutA (some a2) (c - 2) 0 1) p.length (c - 2) (bL p) := by have h9 := hb2.cutb (l := 0) (u := p.length) (by omega) (by omega); rw [List.drop_zero, Nat.sub_zero, hct] at h9; exact h9
    refine L_y (y_move rfl) rfl (L_y (y_extract rfl rfl) rfl (L_y (y_extract rfl rfl) rfl (L_y (y_extract rfl rfl) rfl (L_y (y_assign rfl) rfl (L_y (y_assign rfl) rfl (L_y (y_assign rfl) rfl (L_nil (hK13 _ _ (T_seq fun K14 hK14 => T_region (L_y (y_move rfl) rfl (L_y (y_bstr Tryz.underlying22 Tryz.underlying5 Tryz.underlying9 rfl (S11.rd hbp)) rfl (L_y (y_fieldA 0 Tryz.underlying149 rfl sz9 rfl rfl rfl) rfl ?_)))))))))))); refine L_o (o_st1 S11 1 rfl rfl rfl rfl sz9 (by rw [List.size_toArray, ef_len _ _ zB_len]; omega) fun w12 S12 => ?_); have S90 := S12.blkc 1 rfl ef_set0; refine L_nil (hK14 _ _ (T_seq fun K15 hK15 => T_seq fun K16 hK16 => T_region (L_y (y_fieldA 0 Tryz.underlying149 rfl sz9 rfl rfl rfl) rfl (L_y (y_ldc Tryz.underlying9 rfl rfl (((S90.blk 1 rfl).cell _).trans (ef_0 _ _ _))) rfl (L_o (o_call Tryz.func142 rfl rfl (Tre.pname _ w12) rfl rfl ?_)))))); rintro e13 w13 ⟨v13, rfl, l13, rfl⟩; refine ⟨_, rfl, (have S13 := S90.like l13; L_y ((by first | exact y_notD rfl | exact y_not rfl)) rfl ?_)⟩; refine L_nil (hK16 _ _ ?_); refine T_condB rfl (fun h43 => ?_) (fun h43 => ?_)
    ·
     refine T_seq fun K17 hK17 => T_region (L_y (y_ldW Tryz.underlying149 rfl sz149 rfl (S13.blk 1 rfl) (ef_whole _ _ (by first | exact zB_len | exact hq32))) rfl ?_); refine L_o (o_stW S13 0 rfl rfl rfl (by rw [List.size_toArray, ef_len _ _ (by first | exact zB_len | exact hq32)]; exact sz149) (by first | (rw [List.size_toArray, List.size_toArray, ef_len _ _ (by first | exact zB_len | exact hq32), ef_len _ _ zB_len]; done) | (rw [List.size_toArray, ef_len _ _ (by first | exact zB_len | exact hq32)]; rfl)) (fun u hu => ef_one _ _ _ u (by rw [List.toList_toArray] at hu; exact hu)) fun w14 S14 => ?_); refine L_y (y_assign rfl) rfl (L_y (y_assign rfl) rfl (L_nil (hK17 _ _ (T_ret (ur (retctt rfl rfl rfl rfl (S14.blk 0 rfl) Tryz.underlying149 rfl (by rw [List.size_toArray, ef_len _ _ (by first | exact zB_len | exact hq32)]; exact sz149) ?_)))))); exact ⟨_, rfl, S14.like0, OneV.bad zB_len (one_s15 (Classical.not_not.1 h18) hcf (by simpa using h43)) (by decide)⟩
    ·
     refine T_skip (hK15 _ _ (T_seq fun K18 hK18 => T_seq fun K19 hK19 => T_region (L_y (y_move rfl) rfl (L_y ((by first | exact y_notD rfl | exact y_not rfl)) rfl ?_)))); refine L_y (y_move rfl) rfl (L_gyes rfl rfl (L_y (y_move rfl) rfl (L_gyes rfl rfl (L_y (y_len Tryz.underlying22 rfl) rfl (L_gyes rfl rfl (L_y (y_lss rfl rfl) rfl (L_y (y_pk rfl rfl) rfl (L_nil (hK19 _ _ ?_))))))))); refine T_cond rfl (fun h51 => ?_) (fun h51 => ?_)
     ·
      refine T_seq fun K20 hK20 => T_region (L_y (y_ldW Tryz.underlying149 rfl sz149 rfl (S13.blk 1 rfl) (ef_whole _ _ (by first | exact zB_len | exact hq32))) rfl ?_); refine L_o (o_stW S13 0 rfl rfl rfl (by rw [List.size_toArray, ef_len _ _ (by first | exact zB_len | exact hq32)]; exact sz149) (by first | (rw [List.size_toArray, List.size_toArray, ef_len _ _ (by first | exact zB_len | exact hq32), ef_len _ _ zB_len]; done) | (rw [List.size_toArray, ef_len _ _ (by first | exact zB_len | exact hq32)]; rfl)) (fun u hu => ef_one _ _ _ u (by rw [List.toList_toArray] at hu; exact hu)) fun w15 S15 => ?_); refine L_y (y_assign rfl) rfl (L_y (y_assign rfl) rfl (L_nil (hK20 _ _ (T_ret (ur (retctt rfl rfl rfl rfl (S15.blk 0 rfl) Tryz.underlying149 rfl (by rw [List.size_toArray, ef_len _ _ (by first | exact zB_len | exact hq32)]; exact sz149) ?_)))))); exact ⟨_, rfl, S15.like0, OneV.bad zB_len (one_s10 (Classical.not_not.1 h18) hcf (by simpa using h43) (by omega)) (by decide)⟩
     ·
      refine T_skip (hK18 _ _ (T_seq fun K21 hK21 => ?_)); have hq32 : (q.take 32).length = 32 := by rw [List.length_take]; omega
      refine T_drawnX (fun w => Rs w 1 (some a) n c (bL (m :: 32 :: t))) hmix (by kernel_rfl) (fun w l => ((S13.like l).rd hb)) fun w16 l16 => have S16 := S13.like l16; DX_y 1 (by kernel_rfl) rfl (y_move rfl) rfl (DX_y 2 (by kernel_rfl) rfl (y_fieldA 2 Tryz.underlying149 rfl sz41 rfl rfl rfl) rfl (DX_y 3 (by kernel_rfl) rfl (y_aslice Tryz.underlying41 sz5 rfl) rfl (DX_y 4 (by kernel_rfl) rfl (y_move rfl) rfl ?_))); refine DX_o2 0 5 (by kernel_rfl) rfl rfl ?_ ?_
      ·
       refine o_y (y_ldW Tryz.underlying149 rfl sz149 rfl (S16.blk 1 rfl) (ef_whole _ _ (by first | exact zB_len | exact hq32))) (Like.refl _) rfl ⟨(S16.rd hb), ?_⟩; refine DX_o1 5 (by kernel_rfl) rfl (o_copyB (news := bL (q.take 32)) S16 1 rfl Tryz.underlying22 sz5 rfl rfl rfl (S16.rd hbq) (bL_takeN q 32).symm (by rw [List.size_toArray, ef_len _ _ zB_len, length_bL, hq32]; omega) (bL_one _) rfl fun w17 S17 => ?_); refine ⟨(S17.rd hb), (have S18 := S17.blkc 1 rfl (ef_cp zB_len hq32); DX_y 6 (by kernel_rfl) rfl (y_sliceL Tryz.underlying22 sz5 rfl rfl (Nt.mk (by rw [length_bL, hq32]) : Nt _ (32)) (by omega)) rfl ?_)⟩; refine DX_o1 7 (by kernel_rfl) rfl (o_stW S18 0 rfl rfl rfl (by rw [List.size_toArray, ef_len _ _ (by first | exact zB_len | exact hq32)]; exact sz149) (by first | (rw [List.size_toArray, List.size_toArray, ef_len _ _ (by first | exact zB_len | exact hq32), ef_len _ _ zB_len]; done) | (rw [List.size_toArray, ef_len _ _ (by first | exact zB_len | exact hq32)]; rfl)) (fun u hu => ef_one _ _ _ u (by rw [List.toList_toArray] at hu; exact hu)) fun w19 S19 => ?_); refine ⟨(S19.rd hb), (DX_y 8 (by kernel_rfl) rfl (y_assign rfl) rfl (DX_y 9 (by kernel_rfl) rfl (y_assign rfl) rfl (DX_nil (by kernel_rfl) (hK21 _ _ (T_ret (ur (retctt rfl rfl rfl rfl (S19.blk 0 rfl) Tryz.underlying149 rfl (by rw [List.size_toArray, ef_len _ _ (by first | exact zB_len | exact hq32)]; exact sz149) ?_)))))))⟩; exact ⟨_, rfl, S19.like0, OneV.good (by first | exact zB_len | exact hq32) (one_s0 (Classical.not_not.1 h18) hcf (by simpa using h43) (by omega)) rfl rfl (fun W hW => rs_tail 32 (by have h9 := rs_tail (p.length + 1) (show Rs W 1 (some a2) (n - 2) (c - 2) (bL t) by rw [← ha2]; exact rs_tail 2 hW (by omega)) (by omega); rw [hcd] at h9; exact h9) (by omega))⟩
      ·
       refine o_copyB (news := bL (q.take 32)) S16 1 rfl Tryz.underlying22 sz5 rfl rfl rfl (S16.rd hbq) (bL_takeN q 32).symm (by rw [List.size_toArray, ef_len _ _ zB_len, length_bL, hq32]; omega) (bL_one _) rfl fun w20 S20 => ?_; refine ⟨(S20.rd hb), (have S21 := S20.blkc 1 rfl (ef_cp zB_len hq32); DX_y 6 (by kernel_rfl) rfl (y_sliceL Tryz.underlying22 sz5 rfl rfl (Nt.mk (by rw [length_bL, hq32]) : Nt _ (32)) (by omega)) rfl ?_)⟩; refine DX_o1 0 (by kernel_rfl) rfl (o_y (y_ldW Tryz.underlying149 rfl sz149 rfl (S21.blk 1 rfl) (ef_whole _ _ (by first | exact zB_len | exact hq32))) (Like.refl _) rfl ⟨(S21.rd hb), ?_⟩); refine DX_o1 7 (by kernel_rfl) rfl (o_stW S21 0 rfl rfl rfl (by rw [List.size_toArray, ef_len _ _ (by first | exact zB_len | exact hq32)]; exact sz149) (by first | (rw [List.size_toArray, List.size_toArray, ef_len _ _ (by first | exact zB_len | exact hq32), ef_len _ _ zB_len]; done) | (rw [List.size_toArray, ef_len _ _ (by first | exact zB_len | exact hq32)]; rfl)) (fun u hu => ef_one _ _ _ u (by rw [List.toList_toArray] at hu; exact hu)) fun w22 S22 => ?_); refine ⟨(S22.rd hb), (DX_y 8 (by kernel_rfl) rfl (y_assign rfl) rfl (DX_y 9 (by kernel_rfl) rfl (y_assign rfl) rfl (DX_nil (by kernel_rfl) (hK21 _ _ (T_ret (ur (retctt rfl rfl rfl rfl (S22.blk 0 rfl) Tryz.underlying149 rfl (by rw [List.size_toArray, ef_len _ _ (by first | exact zB_len | exact hq32)]; exact sz149) ?_)))))))⟩; exact ⟨_, rfl, S22.like0, OneV.good (by first | exact zB_len | exact hq32) (one_s0 (Classical.not_not.1 h18) hcf (by simpa using h43) (by omega)) rfl rfl (fun W hW => rs_tail 32 (by have h9 := rs_tail (p.length + 1) (show Rs W 1 (some a2) (n - 2) (c - 2) (bL t) by rw [← ha2]; exact rs_tail 2 hW (by omega)) (by omega); rw [hcd] at h9; exact h9) (by omega))⟩
theorem one0 (a : Addr) (n c : Nat) (m : UInt8) (r : List UInt8) (w0 : World) (hb : Rs w0 1 (some a) n c (bL (m :: r))) (hcf0 : cutF 0 ((m :: r).drop 2) = none) :
    Calls Tryz.prog 106 #[.slice (some a) n c] w0 fun e w' => ∃ u, e = .returned u ∧ Like w0 w' ∧ OneV a n c (m :: r) u := by
 refine enter1 (env := [(0, .slice (some a) n c)]) [.slice (some a) n c] Tryz.func106 rfl Tryz.ntmps106 rfl rfl ?_; have hl := hb.lenb; have hcap := hb.cap; have hmax := hb.max; have hm9 := m.toNat_lt; have hl1 : 1 ≤ n := by rw [← hl]; simp
 have S0 := St.start w0 noM; refine T_seq fun K1 hK1 => T_region (L_o (o_alloc zz149 S0 rfl fun b1 w1 hb1 S1 => have S2 : Zx.St w0 noM [blk b1 149 (ef ⟨#[]⟩ 0 zB).toArray] w1 := S1.cast (by kernel_rfl); L_y (y_assign rfl) rfl (L_y (y_assign rfl) rfl (L_nil (hK1 _ _ (T_seq fun K2 hK2 => T_region (L_o (o_alloc zz149 S2 rfl fun b3 w3 hb3 S3 => have S4 : Zx.St w0 noM [blk b1 149 (ef ⟨#[]⟩ 0 zB).toArray, blk b3 149 (ef ⟨#[]⟩ 0 zB).toArray] w3 := S3.cast (by kernel_rfl); L_nil (hK2 _ _ ?_))))))))); refine T_seq fun K3 hK3 => T_region (L_y (y_move rfl) rfl (L_y (y_idx Tryz.underlying22 sz5 rfl rfl (by first | exact S4.rd hb) inferInstance (by omega)) rfl ?_)); refine L_y (y_ldr Tryz.underlying5 rfl rfl (S4.rd hb) (bL_get _ _ _ (rfl : (m :: r)[0]? = some m))) rfl (L_y (y_conv is5 Tryz.underlying3 rfl (i64w (by omega))) rfl (L_y (y_sub rfl rfl (i64w (by omega))) rfl (L_y (y_fieldA 1 Tryz.underlying149 rfl sz3 rfl rfl rfl) rfl (L_o (o_st1 S4 1 rfl rfl rfl rfl sz3 (by rw [List.size_toArray, ef_len _ _ zB_len]; omega) fun w5 S5 => ?_))))); have S90 := S5.blkc 1 rfl ef_set1; refine L_nil (hK3 _ _ (T_seq fun K4 hK4 => T_seq fun K5 hK5 => T_region (L_y (y_fieldA 1 Tryz.underlying149 rfl sz3 rfl rfl rfl) rfl (L_y (y_ldc Tryz.underlying3 rfl rfl (((S90.blk 1 rfl).cell _).trans (ef_1 _ _ _))) rfl (L_o (o_call Tryz.func140 rfl rfl (Tre.mode_ ((m.toNat : Int) - 48) w5) rfl rfl ?_)))))); rintro e6 w6 ⟨v6, rfl, l6, rfl⟩; refine ⟨_, rfl, (have S6 := S90.like l6; L_y ((by first | exact y_notD rfl | exact y_not rfl)) rfl ?_)⟩; refine L_nil (hK5 _ _ ?_); refine T_cond rfl (fun h18 => ?_) (fun h18 => ?_)
 ·
  refine T_seq fun K6 hK6 => T_region (L_y (y_ldW Tryz.underlying149 rfl sz149 rfl (S6.blk 1 rfl) (ef_whole _ _ (by first | exact zB_len | exact hq32))) rfl ?_); refine L_o (o_stW S6 0 rfl rfl rfl (by rw [List.size_toArray, ef_len _ _ (by first | exact zB_len | exact hq32)]; exact sz149) (by first | (rw [List.size_toArray, List.size_toArray, ef_len _ _ (by first | exact zB_len | exact hq32), ef_len _ _ zB_len]; done) | (rw [List.size_toArray, ef_len _ _ (by first | exact zB_len | exact hq32)]; rfl)) (fun u hu => ef_one _ _ _ u (by rw [List.toList_toArray] at hu; exact hu)) fun w7 S7 => ?_); refine L_y (y_assign rfl) rfl (L_y (y_assign rfl) rfl (L_nil (hK6 _ _ (T_ret (ur (retctt rfl rfl rfl rfl (S7.blk 0 rfl) Tryz.underlying149 rfl (by rw [List.size_toArray, ef_len _ _ (by first | exact zB_len | exact hq32)]; exact sz149) ?_)))))); exact ⟨_, rfl, S7.like0, OneV.bad zB_len (one_16 h18) (by decide)⟩
 ·
  refine T_skip (hK4 _ _ (T_seq fun K7 hK7 => T_seq fun K8 hK8 => T_region (L_y (y_move rfl) rfl (L_y (y_len Tryz.underlying22 rfl) rfl (L_y (y_lss rfl rfl) rfl (L_nil (hK8 _ _ ?_))))))); refine T_cond rfl (fun h22 => ?_) (fun h22 => ?_)
  ·
   refine T_seq fun K9 hK9 => T_region (L_y (y_ldW Tryz.underlying149 rfl sz149 rfl (S6.blk 1 rfl) (ef_whole _ _ (by first | exact zB_len | exact hq32))) rfl ?_); refine L_o (o_stW S6 0 rfl rfl rfl (by rw [List.size_toArray, ef_len _ _ (by first | exact zB_len | exact hq32)]; exact sz149) (by first | (rw [List.size_toArray, List.size_toArray, ef_len _ _ (by first | exact zB_len | exact hq32), ef_len _ _ zB_len]; done) | (rw [List.size_toArray, ef_len _ _ (by first | exact zB_len | exact hq32)]; rfl)) (fun u hu => ef_one _ _ _ u (by rw [List.toList_toArray] at hu; exact hu)) fun w8 S8 => ?_); refine L_y (y_assign rfl) rfl (L_y (y_assign rfl) rfl (L_nil (hK9 _ _ (T_ret (ur (retctt rfl rfl rfl rfl (S8.blk 0 rfl) Tryz.underlying149 rfl (by rw [List.size_toArray, ef_len _ _ (by first | exact zB_len | exact hq32)]; exact sz149) ?_)))))); have hr : r = [] := by cases r with | nil => rfl | cons s t => simp at hl; omega
   subst hr; exact ⟨_, rfl, S8.like0, OneV.bad zB_len (one_10 (Classical.not_not.1 h18)) (by decide)⟩
  ·
   obtain ⟨s, t, rfl⟩ : ∃ s t, r = s :: t := by cases r with | nil => (simp at hl; omega) | cons s t => exact ⟨s, t, rfl⟩
   have hs9 := s.toNat_lt; have hcf : cutF 0 t = none := hcf0; refine T_skip (hK7 _ _ (T_seq fun K10 hK10 => T_seq fun K11 hK11 => T_region (L_y (y_move rfl) rfl (L_y (y_idx Tryz.underlying22 sz5 rfl rfl (by first | exact S6.rd hb) inferInstance (by omega)) rfl ?_)))); refine L_y (y_ldr Tryz.underlying5 rfl rfl (S6.rd hb) (bL_get _ _ _ (rfl : (m :: s :: t)[1]? = some s))) rfl (L_y (y_neq rfl rfl) rfl (L_nil (hK11 _ _ ?_))); refine T_cond rfl (fun h27 => ?_) (fun h27 => ?_)
   ·
    refine T_seq fun K12 hK12 => T_region (L_y (y_ldW Tryz.underlying149 rfl sz149 rfl (S6.blk 1 rfl) (ef_whole _ _ (by first | exact zB_len | exact hq32))) rfl ?_); refine L_o (o_stW S6 0 rfl rfl rfl (by rw [List.size_toArray, ef_len _ _ (by first | exact zB_len | exact hq32)]; exact sz149) (by first | (rw [List.size_toArray, List.size_toArray, ef_len _ _ (by first | exact zB_len | exact hq32), ef_len _ _ zB_len]; done) | (rw [List.size_toArray, ef_len _ _ (by first | exact zB_len | exact hq32)]; rfl)) (fun u hu => ef_one _ _ _ u (by rw [List.toList_toArray] at hu; exact hu)) fun w9 S9 => ?_); refine L_y (y_assign rfl) rfl (L_y (y_assign rfl) rfl (L_nil (hK12 _ _ (T_ret (ur (retctt rfl rfl rfl rfl (S9.blk 0 rfl) Tryz.underlying149 rfl (by rw [List.size_toArray, ef_len _ _ (by first | exact zB_len | exact hq32)]; exact sz149) ?_)))))); exact ⟨_, rfl, S9.like0, OneV.bad zB_len (one_16b (Classical.not_not.1 h18) (fun e => h27 (by rw [e]; rfl))) (by decide)⟩
   ·
    obtain rfl := nat32 h27; refine T_skip (hK10 _ _ (T_seq fun K13 hK13 => T_region (L_y (y_move rfl) rfl (L_y (y_sliceL Tryz.underlying22 sz5 rfl rfl inferInstance (by omega)) rfl (L_o (o_bsl [_] te22 zz5 S6 rfl rfl rfl rfl rfl rfl rfl rfl fun b10 w10 S10 => ?_)))))); obtain ⟨a2, ha2⟩ := cutA_some a c 2 1; rw [ha2]; have hb2 : Rs w0 1 (some a2) (n - 2) (c - 2) (bL t) := by rw [← ha2]; exact rs_tail 2 hb (by omega)
    have hcp := hb2.cap; have hln := hb2.lenb; refine L_o (o_call Tryz.func141 rfl rfl (bcut a2 (n - 2) (c - 2) _ 1 t 0 w10 (S10.rd hb2) (S10.row 2 rfl)) rfl rfl ?_); rintro e11 w11 ⟨v11, rfl, l11, rfl⟩; refine ⟨_, rfl, ?_⟩; have S11 := S10.like l11; rw [bcutV_none hcf]; refine L_y (y_move rfl) rfl (L_y (y_extract rfl rfl) rfl (L_y (y_extract rfl rfl) rfl (L_y (y_extract rfl rfl) rfl (L_y (y_assign rfl) rfl (L_y (y_assign rfl) rfl (L_y (y_assign rfl) rfl (L_nil (hK13 _ _ (T_seq fun K14 hK14 => T_region (L_y (y_move rfl) rfl (L_y (y_bstr Tryz.underlying22 Tryz.underlying5 Tryz.underlying9 rfl (S11.rd hb2)) rfl (L_y (y_fieldA 0 Tryz.underlying149 rfl sz9 rfl rfl rfl) rfl ?_)))))))))))); refine L_o (o_st1 S11 1 rfl rfl rfl rfl sz9 (by rw [List.size_toArray, ef_len _ _ zB_len]; omega) fun w12 S12 => ?_); have S90 := S12.blkc 1 rfl ef_set0; refine L_nil (hK14 _ _ (T_seq fun K15 hK15 => T_seq fun K16 hK16 => T_region (L_y (y_fieldA 0 Tryz.underlying149 rfl sz9 rfl rfl rfl) rfl (L_y (y_ldc Tryz.underlying9 rfl rfl (((S90.blk 1 rfl).cell _).trans (ef_0 _ _ _))) rfl (L_o (o_call Tryz.func142 rfl rfl (Tre.pname _ w12) rfl rfl ?_)))))); rintro e13 w13 ⟨v13, rfl, l13, rfl⟩; refine ⟨_, rfl, (have S13 := S90.like l13; L_y ((by first | exact y_notD rfl | exact y_not rfl)) rfl ?_)⟩; refine L_nil (hK16 _ _ ?_); refine T_condB rfl (fun h43 => ?_) (fun h43 => ?_)
    ·
     refine T_seq fun K17 hK17 => T_region (L_y (y_ldW Tryz.underlying149 rfl sz149 rfl (S13.blk 1 rfl) (ef_whole _ _ (by first | exact zB_len | exact hq32))) rfl ?_); refine L_o (o_stW S13 0 rfl rfl rfl (by rw [List.size_toArray, ef_len _ _ (by first | exact zB_len | exact hq32)]; exact sz149) (by first | (rw [List.size_toArray, List.size_toArray, ef_len _ _ (by first | exact zB_len | exact hq32), ef_len _ _ zB_len]; done) | (rw [List.size_toArray, ef_len _ _ (by first | exact zB_len | exact hq32)]; rfl)) (fun u hu => ef_one _ _ _ u (by rw [List.toList_toArray] at hu; exact hu)) fun w14 S14 => ?_); refine L_y (y_assign rfl) rfl (L_y (y_assign rfl) rfl (L_nil (hK17 _ _ (T_ret (ur (retctt rfl rfl rfl rfl (S14.blk 0 rfl) Tryz.underlying149 rfl (by rw [List.size_toArray, ef_len _ _ (by first | exact zB_len | exact hq32)]; exact sz149) ?_)))))); exact ⟨_, rfl, S14.like0, OneV.bad zB_len (one_n15 (Classical.not_not.1 h18) hcf (by simpa using h43)) (by decide)⟩
    ·
     refine T_skip (hK15 _ _ (T_seq fun K18 hK18 => T_seq fun K19 hK19 => T_region (L_y (y_move rfl) rfl (L_y ((by first | exact y_notD rfl | exact y_not rfl)) rfl ?_)))); refine L_y (y_move rfl) rfl (L_gno rfl rfl rfl (L_gno rfl rfl rfl (L_gno rfl rfl rfl (L_y (y_pk rfl rfl) rfl (L_nil (hK19 _ _ (T_true rfl (T_seq fun K20 hK20 => T_region (L_y (y_ldW Tryz.underlying149 rfl sz149 rfl (S13.blk 1 rfl) (ef_whole _ _ (by first | exact zB_len | exact hq32))) rfl ?_))))))))); refine L_o (o_stW S13 0 rfl rfl rfl (by rw [List.size_toArray, ef_len _ _ (by first | exact zB_len | exact hq32)]; exact sz149) (by first | (rw [List.size_toArray, List.size_toArray, ef_len _ _ (by first | exact zB_len | exact hq32), ef_len _ _ zB_len]; done) | (rw [List.size_toArray, ef_len _ _ (by first | exact zB_len | exact hq32)]; rfl)) (fun u hu => ef_one _ _ _ u (by rw [List.toList_toArray] at hu; exact hu)) fun w15 S15 => ?_); refine L_y (y_assign rfl) rfl (L_y (y_assign rfl) rfl (L_nil (hK20 _ _ (T_ret (ur (retctt rfl rfl rfl rfl (S15.blk 0 rfl) Tryz.underlying149 rfl (by rw [List.size_toArray, ef_len _ _ (by first | exact zB_len | exact hq32)]; exact sz149) ?_)))))); exact ⟨_, rfl, S15.like0, OneV.bad zB_len (one_n10 (Classical.not_not.1 h18) hcf (by simpa using h43)) (by decide)⟩
theorem one (a : Addr) (n c : Nat) (m : UInt8) (r : List UInt8) (w0 : World) (hb : Rs w0 1 (some a) n c (bL (m :: r))) : Calls Tryz.prog 106 #[.slice (some a) n c] w0 fun e w' => ∃ u, e = .returned u ∧ Like w0 w' ∧ OneV a n c (m :: r) u := by
  cases h : cutF 0 ((m :: r).drop 2) with
  | none => exact one0 a n c m r w0 hb h
  | some pq => exact one1 a n c m r w0 hb pq.1 pq.2 h
end Go.Proofs.YtgaklngnfecdaaaGreat.Obj
namespace Go.Proofs.YtgaklngnfecdaaaGreat.Obj
open Go.RowKit Zk Zx
open Oid (idf idf_len)
open Tre (nmOk EV enf enf_len mdOk chkE)
open Rev (cutF cutF_some cutF_none)
def stp (y : EV) : ByteArray × Int := (y.nm, y.md)
theorem chk1_congr : ∀ {l k : List EV}, l.map stp = k.map stp → Tre.chk1 l = Tre.chk1 k
  | [], [], _ => rfl
  | [], y :: k, h => by cases h
  | x :: l, [], h => by cases h
  | x :: l, y :: k, h => by
    rw [List.map_cons, List.map_cons] at h
    injection h with h1 h2
    have e1 : x.nm = y.nm := congrArg Prod.fst h1
    have e2 : x.md = y.md := congrArg Prod.snd h1
    unfold Tre.chk1
    rw [e1, e2, chk1_congr h2]
theorem key_congr {x y : EV} (h : stp x = stp y) : Tre.keyB x = Tre.keyB y := by
  have e1 : x.nm = y.nm := congrArg Prod.fst h
  have e2 : x.md = y.md := congrArg Prod.snd h
  unfold Tre.keyB
  rw [e1, e2]
theorem risK_congr : ∀ {l k : List EV}, l.map stp = k.map stp → Tre.risK l = Tre.risK k
  | [], [], _ => rfl
  | [], y :: k, h => by cases h
  | x :: l, [], h => by cases h
  | [x], [y], _ => rfl
  | [x], y :: z :: k, h => by simp at h
  | x :: z :: l, [y], h => by simp at h
  | x :: x2 :: l, y :: y2 :: k, h => by
    rw [List.map_cons, List.map_cons] at h
    injection h with h1 h2
    have h3 : stp x2 :: l.map stp = stp y2 :: k.map stp := h2
    injection h3 with h3 _
    unfold Tre.risK
    rw [risK_congr (show (x2 :: l).map stp = (y2 :: k).map stp from h2)]
    unfold Tre.ltK
    rw [key_congr h1, key_congr h3]
theorem once_congr {l k : List EV} (h : l.map stp = k.map stp) : Tre.once l ↔ Tre.once k := by
  have e : l.map EV.nm = k.map EV.nm := by
    have := congrArg (List.map Prod.fst) h
    rwa [List.map_map, List.map_map] at this
  unfold Tre.once
  rw [e]
theorem chkE_congr {l k : List EV} (h : l.map stp = k.map stp) : chkE l = chkE k := by
  have hl : l.length = k.length := by have := congrArg List.length h; simpa using this
  unfold chkE
  rw [hl, chk1_congr h, risK_congr h]
  by_cases ho : Tre.once k
  · have ho2 := (once_congr h).2 ho
    simp only [ho, ho2]
  · have ho2 : ¬ Tre.once l := fun q => ho ((once_congr h).1 q)
    simp only [ho, ho2]
def zEV (nm : ByteArray) (md : Int) : EV := if h : nm.size ≤ 1000000000 then ⟨nm, md, zB, rfl, h⟩ else ⟨⟨#[]⟩, md, zB, rfl, by decide⟩
theorem zEV_st {nm : ByteArray} {md : Int} (h : nm.size ≤ 1000000000) : stp (zEV nm md) = (nm, md) := by unfold zEV; rw [dif_pos h]; rfl
def getT : Nat → List UInt8 → List EV → Int × List EV
  | 0, _, acc => (0, acc)
  | k + 1, b, acc => if b = [] then (0, acc) else if (oneC b).1 ≠ 0 then ((oneC b).1, []) else getT k (oneC b).2.2 (acc ++ [zEV ⟨(oneC b).2.1.toArray⟩ (((b.getD 0 0).toNat : Int) - 48)])
def finT (r : Int × List EV) : Int := if r.1 ≠ 0 then r.1 else chkE r.2
def treeE (b : List UInt8) : Int := finT (getT (b.length + 1) b [])
theorem getT_nil (k : Nat) (acc : List EV) : getT k [] acc = (0, acc) := by cases k <;> simp [getT]
theorem getT_bad {k : Nat} {b : List UInt8} {acc : List EV} (hb : b ≠ []) (h : (oneC b).1 ≠ 0) : getT (k + 1) b acc = ((oneC b).1, []) := by unfold getT; rw [if_neg hb, if_pos h]
theorem getT_ok {k : Nat} {b : List UInt8} {acc : List EV} (hb : b ≠ []) (h : ¬ (oneC b).1 ≠ 0) : getT (k + 1) b acc = getT k (oneC b).2.2 (acc ++ [zEV ⟨(oneC b).2.1.toArray⟩ (((b.getD 0 0).toNat : Int) - 48)]) := by
  conv => lhs; unfold getT
  rw [if_neg hb, if_neg h]
theorem some_of {w : World} {A : Option Addr} {n c : Nat} {xs : List Value} (h : Rs w 1 A n c xs) (hn : 0 < n) : ∃ a, A = some a := by
  obtain ⟨ad, h1, _⟩ := h.rd.2 hn
  exact ⟨ad, h1⟩
theorem one_name {b : List UInt8} : (oneC b).2.1.length ≤ b.length := by
  unfold oneC
  match b with
  | [] => simp
  | m :: r =>
    simp only []
    split
    · simp
    · match r with
      | [] => simp
      | s :: t =>
        simp only []
        split
        · simp
        · cases hc : cutF 0 t with
          | none => simp only []; split <;> simp
          | some pq =>
            obtain ⟨p, q⟩ := pq
            simp only []
            split
            · simp
            · split
              · simp
              · have h9 := (cutF_some hc).1
                simp only [List.length_cons]
                rw [h9, List.length_append, List.length_cons]
                omega
theorem get (A : Option Addr) (n c : Nat) (b0 : List UInt8) (w0 : World) (hb : Rs w0 1 A n c (bL b0)) (h9 : b0.length ≤ 9000) :
    Calls Tryz.prog 73 #[.slice A n c] w0 fun e w' => ∃ u, e = .returned u ∧ Like w0 w' ∧ ∃ A k cp, u = .tuple #[.slice A k cp, .int .i64 (treeE b0)] := by
 refine enter1 (env := [(0, .slice A n c)]) [.slice A n c] Tryz.func73 rfl Tryz.ntmps73 rfl rfl ?_; have S0 := St.start w0 noM; refine T_seq fun K1 hK1 => T_region (L_y (y_assign rfl) rfl (L_y (y_assign rfl) rfl (L_nil (hK1 _ _ (T_seq fun K2 hK2 => T_region (have S1 := S0.nilrow 149 34; L_y (y_assign rfl) rfl (L_nil (hK2 _ _ (T_seq fun K3 hK3 => T_block ?_))))))))); refine T_loop9 [] (fun (A : Option Addr) (n : Nat) (c : Nat) (b : List UInt8) (k : Nat) (acc : List EV) (l : List EV) (A4 : Option Addr) (c4 : Nat) => [(0, .slice A n c), (4, .slice A4 l.length c4)]) (fun (A : Option Addr) (n : Nat) (c : Nat) (b : List UInt8) (k : Nat) (acc : List EV) (l : List EV) (A4 : Option Addr) (c4 : Nat) => b.length) (fun (A : Option Addr) (n : Nat) (c : Nat) (b : List UInt8) (k : Nat) (acc : List EV) (l : List EV) (A4 : Option Addr) (c4 : Nat) (w : World) => (b.length < k ∧ b.length ≤ 9000 ∧ l.length + b.length ≤ 9000 ∧ l.map stp = acc.map stp ∧ treeE b0 = finT (getT k b acc)) ∧ Rs w0 1 A n c (bL b) ∧ Zx.St w0 noM [Zx.row 149 34 A4 l.length c4 (l.flatMap enf)] w) A n c b0 (b0.length + 1) [] [] none 0 (Sub.cons rfl (by first | rfl | exact congrArg (Value.int _) (by omega)) (Sub.cons rfl (by first | rfl | exact congrArg (Value.int _) (by omega)) (Sub.nil _))) (Sub.nil _) ?_ ?_
 ·
  exact ⟨⟨by omega, by omega, by simp; omega, rfl, rfl⟩, hb, S1⟩
 ·
  intro A n c b k acc l A4 c4 w2 hrel; obtain ⟨⟨hbk, hb9, hlb, hst, ht⟩, hb, S2⟩ := hrel; have hln := hb.lenb; have hcap := hb.cap; have hmax := hb.max; refine T_seq fun K4 hK4 => T_seq fun K5 hK5 => T_region (L_y (y_move rfl) rfl (L_y (y_len Tryz.underlying22 rfl) rfl (L_y (y_gtr rfl rfl) rfl (L_nil (hK5 _ _ ?_))))); refine T_cond rfl (fun h11 => ?_) (fun h11 => ?_)
  ·
   obtain ⟨a, rfl⟩ := some_of hb (by omega); obtain ⟨m, r, rfl⟩ : ∃ m r, b = m :: r := by cases b with | nil => (simp at hln; omega) | cons m r => exact ⟨m, r, rfl⟩
   obtain ⟨k, rfl⟩ : ∃ j, k = j + 1 := ⟨k - 1, by omega⟩; refine T_skip (hK4 _ _ (T_block (T_seq fun K6 hK6 => T_region (L_y (y_move rfl) rfl (L_o (o_call Tryz.func106 rfl rfl (one a n c m r w2 (S2.rd hb)) rfl rfl ?_)))))); rintro e3 w3 ⟨v3, rfl, l3, ⟨nm, md, id, A9, k9, c9, hid, rfl, hgood⟩⟩; refine ⟨_, rfl, (have S3 := S2.like l3; L_y (y_move rfl) rfl (L_y (y_extract rfl rfl) rfl (L_y (y_extract rfl rfl) rfl (L_y (y_extract rfl rfl) rfl (L_o (o_alloc zz149 S3 rfl fun b4 w4 hb4 S4 => L_o (o_stW S4 1 rfl rfl rfl (by rw [List.size_toArray, ef_len _ _ hid]; exact sz149) (by rw [List.size_toArray, ef_len _ _ hid]; rfl) (fun u hu => ef_one _ _ _ u (by rw [List.toList_toArray] at hu; exact hu)) fun w5 S5 => ?_)))))))⟩; refine L_y (y_assign rfl) rfl (L_y (y_assign rfl) rfl (L_nil (hK6 _ _ (T_seq fun K7 hK7 => T_seq fun K8 hK8 => T_region (L_y (y_move rfl) rfl (L_y (y_neq rfl rfl) rfl (L_nil (hK8 _ _ ?_)))))))); refine T_cond rfl (fun h19 => ?_) (fun h19 => ?_)
   ·
    refine T_seq fun K9 hK9 => T_region (L_y (y_move rfl) rfl (L_y (y_assign rfl) rfl (L_y (y_assign rfl) rfl (L_nil (hK9 _ _ (T_ret (ur (ret2 rfl rfl rfl ?_)))))))); have he : treeE b0 = (oneC (m :: r)).1 := by rw [ht, getT_bad (by simp) (fun q => h19 q)]; unfold finT; rw [if_pos (fun q => h19 q)]
    exact ⟨_, rfl, S5.like0, none, 0, 0, by rw [he]; rfl⟩
   ·
    have he0 : (oneC (m :: r)).1 = 0 := Classical.byContradiction fun q => h19 q; obtain ⟨hnm, hmd, hrest⟩ := hgood he0; have hns : nm.size ≤ 1000000000 := by rw [hnm, Rev.bsz]; have h9 := one_name (b := m :: r); omega
    obtain ⟨yE, hyE⟩ : ∃ y : EV, y = ⟨nm, md, id, hid, hns⟩ := ⟨_, rfl⟩; have hye : ef nm md id = enf yE := by rw [hyE]; rfl
    have hys : stp yE = (⟨(oneC (m :: r)).2.1.toArray⟩, (((m :: r).getD 0 0).toNat : Int) - 48) := by rw [hyE, ← hnm, ← hmd]; rfl
    rw [hye] at S5; refine T_skip (hK7 _ _ (T_seq fun K10 hK10 => T_region (L_y (y_move rfl) rfl (L_y (y_ldW Tryz.underlying149 rfl sz149 rfl (S5.blk 1 rfl) (by first | exact Tre.whole_enf yE | exact ⟨Tre.take_enf yE, enf_len yE⟩)) rfl ?_)))); refine L_o (o_bsl (enf yE) te78 zz149 S5 rfl rfl rfl (by simp [Value.cells, enf_len]) (by simp [Value.cells]) rfl rfl rfl fun b6 w6 S6 => ?_); refine L_o (o_app te78 S6 0 rfl rfl rfl (by first | exact S6.row 0 rfl | exact S6.row 2 rfl) (fun u hu => by rw [ef_en] at hu; exact ef_one _ _ _ u hu) rfl (by omega) (by omega) fun A7 c7 w7 S7 => ?_); have S7d := S7.drop (rs' := [_, _]) (.cons_cons _ (.cons_cons _ (.cons _ (.refl _)))); refine L_y (y_assign rfl) rfl (L_nil (hK10 _ _ (T_region (L_y (y_move rfl) rfl (L_y (y_assign rfl) rfl (L_nil ?_)))))); have hz := one_less (b := m :: r) (by omega : (oneC (m :: r)).1 = 0); have hsz : (⟨(oneC (m :: r)).2.1.toArray⟩ : ByteArray).size ≤ 1000000000 := by rw [Rev.bsz]; have h9 := one_name (b := m :: r); omega
    simp only [List.length_cons] at hz hlb hbk hb9 hln
    have S91 := S7d.sel [0] (by decide); have S92 := S91.rowc 0 rfl (n' := (l ++ [yE]).length) (xs' := (l ++ [yE]).flatMap enf) (by rw [List.length_append]; rfl) (by rw [List.flatMap_append]; simp [hyE]); refine ⟨_, _, _, (oneC (m :: r)).2.2, k, acc ++ [zEV ⟨(oneC (m :: r)).2.1.toArray⟩ ((((m :: r).getD 0 0).toNat : Int) - 48)], l ++ [yE], _, _, by simp only [List.length_cons]; omega, ⟨⟨by omega, by omega, by rw [List.length_append]; simp only [List.length_cons, List.length_nil]; omega, by rw [List.map_append, List.map_append, hst, List.map_cons, List.map_nil, List.map_cons, List.map_nil, zEV_st hsz, hys], by rw [ht, getT_ok (by simp) (fun q => q (by omega))]⟩, hrest _ hb, S92⟩, ?_⟩; exact (Sub.cons rfl (by first | rfl | exact congrArg (Value.int _) (by omega)) (Sub.cons rfl (by rw [List.length_append]; rfl) (Sub.nil _)))
  ·
   have hb0 : b = [] := List.length_eq_zero_iff.1 (by omega); subst hb0; refine T_exit (hK3 _ _ (T_seq fun K11 hK11 => T_seq fun K12 hK12 => T_region (L_y (y_move rfl) rfl (L_o (o_call Tryz.func107 rfl rfl (Tre.pcheck A4 _ c4 l w2 (S2.row 0 rfl) (by omega)) rfl rfl ?_))))); rintro e8 w8 ⟨v8, rfl, l8, rfl⟩; refine ⟨_, rfl, (have S8 := S2.like l8; L_y (y_assign rfl) rfl (L_nil (hK12 _ _ (T_seq fun K13 hK13 => T_region (L_y (y_move rfl) rfl (L_y (y_neq rfl rfl) rfl (L_nil (hK13 _ _ ?_))))))))⟩; refine T_cond rfl (fun h29 => ?_) (fun h29 => ?_)
   ·
    refine T_seq fun K14 hK14 => T_region (L_y (y_move rfl) rfl (L_y (y_assign rfl) rfl (L_y (y_assign rfl) rfl (L_nil (hK14 _ _ (T_ret (ur (ret2 rfl rfl rfl ?_)))))))); have he : treeE b0 = chkE l := by rw [ht, getT_nil]; unfold finT; rw [if_neg (by simp)]; exact chkE_congr hst.symm
    exact ⟨_, rfl, S8.like0, none, 0, 0, by rw [he]⟩
   ·
    refine T_skip (hK11 _ _ (T_seq fun K15 hK15 => T_region (L_y (y_move rfl) rfl (L_y (y_assign rfl) rfl (L_y (y_assign rfl) rfl (L_nil (hK15 _ _ (T_ret (ur (ret2 rfl rfl rfl ?_)))))))))); have he : treeE b0 = 0 := by rw [ht, getT_nil]; unfold finT; rw [if_neg (by simp)]; exact (chkE_congr hst.symm).trans (Classical.byContradiction fun q => h29 q)
    exact ⟨_, rfl, S8.like0, A4, l.length, c4, by rw [he]⟩
end Go.Proofs.YtgaklngnfecdaaaGreat.Obj
namespace Go.Proofs.YtgaklngnfecdaaaGreat.Zx
open Go.RowKit Zk
def OwnM (w : World) (e : TypeId) (A : Option Addr) (n c : Nat) (xs : List Value) : Prop :=
  xs.length = n ∧ ∃ g cur fz, A = some ⟨g, 0, none⟩ ∧ w.heap[g]? = some (.cells cur e fz) ∧ (fz = (0, 0) ∨ cur.size ≤ fz.1) ∧ n ≤ c ∧ c ≤ maxLen ∧ cur.size = c ∧ cur.toList.take n = xs
def rowM (e : TypeId) (A : Option Addr) (n c : Nat) (xs : List Value) : Res where
  dom i := (Value.slice A n c).ownBlock = some i
  holds w := OwnM w e A n c xs
  stable w w' h hh := by
    obtain ⟨h0, g, cur, fz, h1, h2, h3⟩ := hh
    refine ⟨h0, g, cur, fz, h1, ?_, h3⟩
    rw [← h2]
    exact h g (by rw [h1]; rfl)
theorem OwnM.rs {w : World} {e : TypeId} {A : Option Addr} {n c : Nat} {xs : List Value} (h : OwnM w e A n c xs) : Rs w 1 A n c xs := by
  obtain ⟨h0, g, cur, fz, rfl, hg, hfz, hnc, hcm, hcs, htk⟩ := h
  refine ⟨⟨by omega, fun hn => ⟨_, rfl, (Array.getElem?_eq_some_iff.1 hg).1, fun j u hu => ?_⟩⟩, hnc, by unfold maxLen at hcm; exact hcm⟩
  rw [Addr.add_mid, cell_of_row w g _ cur e fz hg, Nat.zero_add]
  rw [← htk, List.getElem?_take] at hu
  split at hu
  · simpa using hu
  · cases hu
section
variable {P : Program} {N : Nat} {Q : Exit → Env → World → Prop} {env : Env} {w w0 : World} {M : Nat → Prop} {rs : List Res} {K : Env → World → Prop} {d : Tmp} {ty : TypeId} {pos : String} {after : Array Edge} {g : Option (Nat × Bool)}
theorem St.rowM (S : St w0 M rs w) (k : Nat) {e n c : Nat} {A : Option Addr} {xs : List Value} (hk : rs[k]? = some (Zx.rowM e A n c xs)) : Rs w 1 A n c xs := OwnM.rs (S.get k hk)
theorem St.frM (S : St w0 noM rs w) (k : Nat) {e n c : Nat} {A : Option Addr} {xs : List Value} (hk : rs[k]? = some (Zx.rowM e A n c xs)) : Fr w0 w 1 A n c xs :=
  ⟨S.rowM k hk, fun ad hn hA => by
    have := ((S.res _ (List.mem_of_getElem? hk)).2 ad.block (by show (Value.slice A n c).ownBlock = _; rw [hA]; rfl)).2
    rcases this with h | h
    · exact h
    · exact h.elim⟩
theorem o_sbytesM {src dt e : TypeId} {x : Operand} {s : ByteArray} (hs : P.underlying src = some .string) (hd : P.underlying dt = some (.slice e)) (he : P.underlying e = some (.int .u8)) (hx : ev env x = some (.string s)) (hlen : s.size ≤ 4611686018427387904) (S : St w0 M rs w) (hdN : Nat.blt d N = true)
    (h : ∀ b c w', Like w w' → St w0 M (rs ++ [rowM e (some ⟨b, 0, none⟩) s.size c (bL s.data.toList)]) w' → K ((d, .slice (some ⟨b, 0, none⟩) s.size c) :: env) w') :
    O P N Q ⟨some d, .convert src dt x, ty, pos, after, g⟩ env w K := fun a ha => by
  have hr := run_bytes_of_string (P := P) w src dt e s hs hd he
  have hcap := grownCap_ge w s.size 0 e
  have hmax := grownCap_le_maxLen w s.size 0 e (by unfold maxLen; omega)
  generalize grownCap w s.size 0 e = cap at *
  have hsz : (bytesRow s cap).size = cap := by unfold bytesRow; simp only [Array.size_append, Array.size_map, Array.size_replicate]; have : s.data.size = s.size := rfl; omega
  have htk : (bytesRow s cap).toList.take s.size = bL s.data.toList := by
    unfold bytesRow
    rw [Array.toList_append, List.take_append_of_le_length (by simp)]
    rw [List.take_of_length_le (by simp)]
    simp [bL]
    intro a _
    rfl
  generalize bytesRow s cap = C at *
  have hl : Like w (w.drew.alloc (.cells C e (C.size, C.size + 1))) := Like.trans (Like.drew w) (like_alloc _ _)
  have hblk : (w.drew.alloc (.cells C e (C.size, C.size + 1))).heap[w.heap.size]? = some (.cells C e (C.size, C.size + 1)) := heap_alloc_new w.drew _
  unfold Oper.wp execOp
  simp only [ha.eval hx, Sem.run_bind, hr, Result.andThen_ok, Sem.run_pure]
  refine ⟨_, ha.put d _ hdN, h _ _ _ hl (S.new hl _ ⟨by simp [size_toList], w.heap.size, C, _, rfl, hblk, .inr (Nat.le_refl _), hcap, hmax, hsz, htk⟩ fun i hi => ?_)⟩
  change (Value.slice (some ⟨w.heap.size, 0, none⟩) s.size cap).ownBlock = some i at hi
  simp only [Value.ownBlock, Option.some.injEq] at hi
  subst hi
  exact ⟨Nat.le_refl _, (Array.getElem?_eq_some_iff.1 hblk).1⟩
theorem storeCellsM (b o : Nat) (t : TypeId) (fz : Nat × Nat) : ∀ (vs : List Value) (i : Nat) (cur : Array Value) (w : World), w.heap[b]? = some (.cells cur t fz) → (fz = (0, 0) ∨ cur.size ≤ fz.1) → o + i + vs.length ≤ cur.size → (∀ v ∈ vs, v.oneCell' = true) →
    (storeCells ⟨b, o, none⟩ vs i).run P w = .ok () (w.setRow b (cur.toList.take (o + i) ++ vs ++ cur.toList.drop (o + i + vs.length)).toArray)
  | [], i, cur, w, hg, _, _, _ => by
    simp only [storeCells, List.append_nil, List.length_nil, Nat.add_zero, List.take_append_drop, Array.toArray_toList]
    rw [setRow_self w b cur t fz hg]
    rfl
  | v :: rest, i, cur, w, hg, hfz, hl, h1 => by
    have hi : o + i < cur.size := by simp at hl; omega
    have hadd : (⟨b, o, none⟩ : Addr).add i = ⟨b, o + i, none⟩ := by unfold Addr.add; split <;> simp_all
    have hcell : w.cell? ⟨b, o + i, none⟩ = some cur[o + i] := by simp [World.cell?, hg, hi]
    have hfro : w.frozen? ⟨b, o + i, none⟩ = false := by
      obtain ⟨lo, hi'⟩ := fz
      rcases hfz with h | h
      · cases h
        simp [World.frozen?, hg]
      · simp only [World.frozen?, hg, Bool.and_eq_false_iff, decide_eq_false_iff_not]
        left
        simp only at h
        omega
    have hst : (store ((⟨b, o, none⟩ : Addr).add i) v).run P w = .ok () (w.setRow b (cur.setIfInBounds (o + i) v)) := by
      rw [hadd, run_store P w _ v _ (h1 v (by simp)), hcell]
      simp [hfro, setCell_eq_setRow w b (o + i) cur t fz v hg]
    have ih := storeCellsM b o t fz rest (i + 1) (cur.setIfInBounds (o + i) v) (w.setRow b (cur.setIfInBounds (o + i) v)) (setRow_heap w b cur _ t _ hg) (by simpa using hfz) (by simp at hl ⊢; omega) (fun x hx => h1 x (by simp [hx]))
    simp only [storeCells, Sem.run_bind, hst, Result.andThen_ok, ih, setRow_setRow]
    congr 3
    have e := list_seg_step cur.toList (o + i) v rest (by simp at hl ⊢; omega)
    simpa [Array.toList_setIfInBounds, Nat.add_assoc] using e
theorem appendRoomM (w : World) (t ty e : TypeId) (i : TypeInfo) (ht : P.underlying t = some (.slice e)) (hi : P.info? e = some i) (hs1 : i.size = 1)
    (b sLen sCap : Nat) (cur : Array Value) (fz : Nat × Nat) (hg : w.heap[b]? = some (.cells cur e fz)) (hfz : fz = (0, 0) ∨ cur.size ≤ fz.1)
    (a : Addr) (m c : Nat) (news : List Value) (hl : news.length = m) (hnews : ∀ j u, news[j]? = some u → w.cell? (a.add j) = some u) (h1 : ∀ u ∈ news, u.oneCell' = true)
    (hroom : sLen + m ≤ sCap) (hfit : sLen + news.length ≤ cur.size) :
    (Builtin.append_ #[t, t] ty #[.slice (some ⟨b, 0, none⟩) sLen sCap, .slice (some a) m c]).run P w =
      .ok (.slice (some ⟨b, 0, none⟩) (sLen + m) sCap) (w.setRow b (cur.toList.take sLen ++ news ++ cur.toList.drop (sLen + news.length)).toArray) := by
  have hf := run_firstCells_some (P := P) w 1 m a m c news (by omega) hnews
  have hst := storeCellsM (P := P) b sLen e fz news 0 cur w hg hfz (by simpa using hfit) h1
  simp only [Nat.add_zero] at hst
  simp [Builtin.append_, run_underlying ht, sizeOf, typeInfo, hi, hs1, Builtin.lenOf, hroom, hf, Addr.add_lit, hst]
theorem run_appM (w : World) (t ty e : TypeId) (i : TypeInfo) (z : Value) (ht : P.underlying t = some (.slice e)) (hi : P.info? e = some i) (hz : i.zero = some z)
    (hsize : i.size = 1) (hzs : z.cells.size = 1) {A : Option Addr} {n c : Nat} {xs : List Value} (hown : OwnM w e A n c xs)
    (A' : Option Addr) (m c' : Nat) (news : List Value) (hr : Reads w w.heap.size 1 A' m news) (h1 : ∀ u ∈ news, u.oneCell' = true)
    (h63 : n + m ≤ maxLen) (hbytes : (n + m) * i.bytes ≤ 140737488355328) :
    ∃ A2 c2 w', (Builtin.append_ #[t, t] ty #[.slice A n c, .slice A' m c']).run P w = .ok (.slice A2 (n + m) c2) w' ∧ OwnM w' e A2 (n + m) c2 (xs ++ news) ∧ w.grownBy w' (Value.slice A n c).ownBlock ∧
      ((Value.slice A2 (n + m) c2).ownBlock = (Value.slice A n c).ownBlock ∨ (Value.slice A2 (n + m) c2).ownBlock = some w.heap.size ∧ w.heap.size < w'.heap.size) := by
  have hown0 := hown
  obtain ⟨h0, b, cur, fz, rfl, hg, hfz, hnc, hcm, hcs, htk⟩ := hown
  have hnl : news.length = m := by have := hr.1; omega
  rcases A' with _ | ad
  · have hm : m = 0 := by
      rcases Nat.eq_zero_or_pos m with h | h
      · exact h
      · obtain ⟨ad, h, _⟩ := hr.2 h
        cases h
    subst hm
    have hn : news = [] := List.eq_nil_of_length_eq_zero hnl
    subst hn
    refine ⟨_, c, w, ?_, by simpa using hown0, World.grownBy.refl w _, .inl rfl⟩
    simp [Builtin.append_, run_underlying ht, sizeOf, typeInfo, hi, Builtin.lenOf, Builtin.firstCells, hnc, storeCells]
  · have hcells : ∀ j u, news[j]? = some u → w.cell? (ad.add j) = some u := by
      intro j u hu
      rcases Nat.eq_zero_or_pos m with hm0 | hm0
      · have : news = [] := List.eq_nil_of_length_eq_zero (by omega)
        rw [this] at hu
        simp at hu
      · obtain ⟨ad', h, _, hc⟩ := hr.2 hm0
        injection h with h
        subst h
        exact hc j u hu
    have hlen : (xs ++ news).length = n + m := by rw [List.length_append]; omega
    by_cases hroom : n + m ≤ c
    · have hr2 := appendRoomM (P := P) w t ty e i ht hi hsize b n c cur fz hg hfz ad m c' news hnl hcells h1 hroom (by omega)
      refine ⟨_, c, _, hr2, ⟨hlen, b, _, fz, rfl, setRow_heap w b cur _ e _ hg, ?_, hroom, hcm, ?_, ?_⟩, ⟨rfl, rfl, rfl, by simp, fun k _ hk => setRow_other w b k _ (fun q => hk (by simp [Value.ownBlock, q]))⟩, .inl rfl⟩
      · rcases hfz with h | h
        · exact .inl h
        · right
          simp only [List.size_toArray, List.length_append, List.length_take, List.length_drop, Array.length_toList]
          omega
      · simp only [List.size_toArray, List.length_append, List.length_take, List.length_drop, Array.length_toList]
        omega
      · rw [htk, ← hlen]
        exact List.take_left
    · have holds : ∀ j u, xs[j]? = some u → w.cell? ((⟨b, 0, none⟩ : Addr).add j) = some u := fun j u hu => by
        rw [Addr.add_mid, cell_of_row w b _ cur e fz hg, Nat.zero_add]
        rw [← htk, List.getElem?_take] at hu
        split at hu
        · simpa using hu
        · cases hu
      have hr2 := run_append_grow (P := P) w t ty e i z ht hi hz ⟨b, 0, none⟩ n c xs (by rw [hsize]; omega) holds ad m c' news (by rw [hsize]; omega) hcells (by omega) (by unfold maxLen at h63; omega) (growslice_fits (by omega) hbytes)
      have hge := grownCap_ge w (n + m) c e
      have hcm2 : grownCap w (n + m) c e ≤ maxLen := grownCap_le_maxLen w (n + m) c e h63
      refine ⟨_, _, _, hr2, ⟨hlen, w.heap.size, _, (0, 0), rfl, heap_alloc_new w.drew _, .inl rfl, hge, hcm2, ?_, ?_⟩, ⟨rfl, rfl, rfl, by simp, fun k hk _ => heap_alloc_old w.drew _ hk⟩, .inr ⟨rfl, by simp⟩⟩
      · simp only [Array.size_append, List.size_toArray, size_zeroCells, hzs]
        omega
      · simp only [Array.toList_append, List.append_assoc]
        rw [← List.append_assoc, ← hlen]
        exact List.take_left
theorem o_appM {s x : Operand} {t e : TypeId} {z : Value} {bytes : Nat} (TE : Elem P t e z 1 bytes) (S : St w0 M rs w) (k : Nat) {A : Option Addr} {n c : Nat} {xs : List Value} (hk : rs[k]? = some (rowM e A n c xs))
    (hs : ev env s = some (.slice A n c)) {A' : Option Addr} {m c' : Nat} {news : List Value} (hx : ev env x = some (.slice A' m c')) (hr : Rs w 1 A' m c' news) (h1 : ∀ u ∈ news, u.oneCell' = true)
    (hd : Nat.blt d N = true) (hbytes : (n + m) * bytes ≤ 140737488355328) (h63 : n + m ≤ 9223372036854775807)
    (h : ∀ A2 c2 w', St w0 M (rs.set k (rowM e A2 (n + m) c2 (xs ++ news))) w' → K ((d, .slice A2 (n + m) c2) :: env) w') :
    O P N Q ⟨some d, .call { callee := .builtin .append, args := #[s, x], argTypes := #[t, t] }, ty, pos, after, g⟩ env w K := fun a ha => by
  have hown : OwnM w e A n c xs := S.get k hk
  obtain ⟨i, hi, hz, hsize, hby⟩ := info_parts TE.hi
  obtain ⟨A2, c2, w', hrun, h2, h3, h4⟩ := run_appM (P := P) w t ty e i z TE.ht hi hz hsize TE.hzs hown A' m c' news hr.rd h1 (by unfold maxLen; exact h63) (by rw [hby]; exact hbytes)
  unfold Oper.wp execOp
  simp only [resolve, invoke, builtin, Sem.run_bind, Sem.run_pure, Result.andThen_ok, List.map_toArray, List.map_cons, List.map_nil, ha.eval hs, ha.eval hx, hrun]
  refine ⟨_, ha.put d _ hd, h A2 c2 w' (S.upd k hk h3.os h3.tape h3.output h3.size (fun j hj hn => h3.block j hj (fun e => hn e.symm)) h2 fun j hj => ?_)⟩
  change (Value.slice A2 (n + m) c2).ownBlock = some j at hj
  rcases h4 with h4 | ⟨h4, h5⟩
  · left; rw [h4] at hj; exact hj
  · right
    rw [h4] at hj
    cases hj
    exact ⟨Nat.le_refl _, h5⟩
end
end Go.Proofs.YtgaklngnfecdaaaGreat.Zx
namespace Go.Proofs.YtgaklngnfecdaaaGreat.Obj
open Go.RowKit Zk Zx
open Oid (idf idf_len)
open Tre (nmOk EV enf enf_len mdOk chkE)
open Rev (cutF cutF_some cutF_none)
def wordB (k : Int) : List UInt8 := if k = 1 then [98, 108, 111, 98] else if k = 2 then [116, 114, 101, 101] else if k = 3 then [99, 111, 109, 109, 105, 116] else if k = 4 then [116, 97, 103] else []
def wordS (k : Int) : ByteArray := ⟨(wordB k).toArray⟩
theorem wordS_1 {k : Int} (h : k = 1) : (⟨#[98, 108, 111, 98]⟩ : ByteArray) = wordS k := by subst h; rfl
theorem wordS_2 {k : Int} (h : k = 2) : (⟨#[116, 114, 101, 101]⟩ : ByteArray) = wordS k := by subst h; rfl
theorem wordS_3 {k : Int} (h : k = 3) : (⟨#[99, 111, 109, 109, 105, 116]⟩ : ByteArray) = wordS k := by subst h; rfl
theorem wordS_4 {k : Int} (h : k = 4) : (⟨#[116, 97, 103]⟩ : ByteArray) = wordS k := by subst h; rfl
theorem wordS_0 {k : Int} (h1 : ¬ k = 1) (h2 : ¬ k = 2) (h3 : ¬ k = 3) (h4 : ¬ k = 4) : (⟨#[]⟩ : ByteArray) = wordS k := by unfold wordS wordB; rw [if_neg h1, if_neg h2, if_neg h3, if_neg h4]
theorem wordS_len (k : Int) : (wordS k).size ≤ 6 := by
  unfold wordS wordB
  rw [Rev.bsz]
  repeat' split
  all_goals decide
theorem word_nil (k : Int) : wordS k = ⟨#[]⟩ ↔ ¬ (1 ≤ k ∧ k ≤ 4) := by
  constructor
  · intro h q
    have hk : k = 1 ∨ k = 2 ∨ k = 3 ∨ k = 4 := by omega
    rcases hk with rfl | rfl | rfl | rfl <;> exact absurd h (by decide)
  · intro h
    exact (wordS_0 (by omega) (by omega) (by omega) (by omega)).symm
def objE (k : Int) (b : List UInt8) : Int := if ¬ (1 ≤ k ∧ k ≤ 4) then 19 else if 4000 < b.length then 3 else if k = 2 then treeE b else if k = 3 then Rev.gcode b else if k = 4 then Rev.mcode b else 0
def objB (k : Int) (b : List UInt8) : List UInt8 := wordB k ++ [32] ++ Rev.digS (b.length : Int) ++ [0] ++ b
theorem none_len {w : World} {n c : Nat} {l : List UInt8} (h : Rs w 1 none n c (bL l)) : n = 0 ∧ l = [] := by
  have h0 : n = 0 := by
    rcases Nat.eq_zero_or_pos n with q | q
    · exact q
    · obtain ⟨ad, h1, _⟩ := h.rd.2 q
      cases h1
  exact ⟨h0, List.length_eq_zero_iff.1 (by have := h.lenb; omega)⟩
def BytesV (w0 w' : World) (k : Int) (b : List UInt8) (u : Value) : Prop := (objE k b ≠ 0 ∧ u = .tuple #[.slice none 0 0, .int .i64 (objE k b)]) ∨ (objE k b = 0 ∧ ∃ A c, u = .tuple #[.slice A (objB k b).length c, .int .i64 0] ∧ Fr w0 w' 1 A (objB k b).length c (bL (objB k b)))
theorem hdr_list (k : Int) (d : List UInt8) : ((wordS k ++ (⟨#[32]⟩ : ByteArray)) ++ (⟨d.toArray⟩ : ByteArray)).data.toList = wordB k ++ [32] ++ d := by
  simp [wordS]
theorem hdr_size (k : Int) (d : List UInt8) : ((wordS k ++ (⟨#[32]⟩ : ByteArray)) ++ (⟨d.toArray⟩ : ByteArray)).size = (wordB k ++ [32] ++ d).length := by
  rw [← hdr_list]
  exact Array.length_toList.symm
theorem spsz : (⟨#[32]⟩ : ByteArray).size = 1 := rfl
theorem clone (A : Option Addr) (n c : Nat) (l : List UInt8) (w0 : World) (hb : Rs w0 1 A n c (bL l)) (hn9 : n ≤ 100000) :
    Calls Tryz.prog 48 #[.slice A n c] w0 fun e w' => ∃ u, e = .returned u ∧ Like w0 w' ∧ ∃ A' c', u = .slice A' n c' ∧ w'.ownsRow w0.heap.size 5 1 (.slice A' n c') n (bL l) := by
 refine enter1 (env := [(0, .slice A n c)]) [.slice A n c] Tryz.func48 rfl Tryz.ntmps48 rfl rfl ?_; have hcap := hb.cap; have hmax := hb.max; have S0 := St.start w0 noM; refine T_seq fun K1 hK1 => T_region (L_y (y_assign rfl) rfl (L_nil (hK1 _ _ (T_seq fun K2 hK2 => T_seq fun K3 hK3 => T_region (L_y (y_move rfl) rfl (L_y (y_seqn Tryz.underlying22 rfl) rfl (L_nil (hK3 _ _ ?_)))))))); refine T_condB rfl (fun h4 => ?_) (fun h4 => ?_)
 ·
  refine T_seq fun K4 hK4 => T_region (L_y (y_assign rfl) rfl (L_nil (hK4 _ _ (T_ret (ur (ret1 rfl rfl ?_)))))); have h0 : A = none := Option.isNone_iff_eq_none.1 h4; subst h0; obtain ⟨rfl, rfl⟩ := none_len hb; exact ⟨_, rfl, S0.like0, none, 0, rfl, World.ownsRow_nil _ _ _ _⟩
 ·
  refine T_skip (hK2 _ _ (T_seq fun K5 hK5 => T_region (L_o (o_bsl0 te22 S0 rfl fun b1 w1 l1 S1 => L_y (y_move rfl) rfl (L_o (o_app te22 S1 0 rfl rfl rfl (S1.rd hb) (bL_one _) rfl (by omega) (by omega) fun A2 c2 w2 S2 => L_y (y_assign rfl) rfl (L_nil (hK5 _ _ (T_ret (ur (ret1 rfl rfl ?_))))))))))); have S93 := S2.rowc 0 rfl (n' := n) (by omega) rfl; rw [Nat.zero_add]; exact ⟨_, rfl, S2.like0, _, _, rfl, S93.own 0 rfl⟩
theorem word_ (k : Int) (w0 : World)  :
    Calls Tryz.prog 17 #[.int .i64 k] w0 fun e w' => ∃ u, e = .returned u ∧ Like w0 w' ∧ u = .string (wordS k) := by
 refine enter1 (env := [(0, .int .i64 k)]) [.int .i64 k] Tryz.func17 rfl Tryz.ntmps17 rfl rfl ?_; have S0 := St.start w0 noM; refine T_seq fun K1 hK1 => T_region (L_y (y_assign rfl) rfl (L_nil (hK1 _ _ (T_seq fun K2 hK2 => T_seq fun K3 hK3 => T_region (L_y (y_move rfl) rfl (L_nil (hK3 _ _ (T_block (T_seq fun K4 hK4 => T_region ?_))))))))); refine L_y (y_eql rfl rfl) rfl (L_y (y_assign rfl) rfl (L_nil (hK4 _ _ ?_))); refine T_cond rfl (fun h4 => ?_) (fun h4 => ?_)
 ·
  refine T_seq fun K5 hK5 => T_region (L_y (y_assign rfl) rfl (L_nil (hK5 _ _ (T_ret (ur (ret1 rfl rfl ?_)))))); exact ⟨_, rfl, S0.like0, congrArg Value.string (wordS_1 h4)⟩
 ·
  refine T_seq fun K6 hK6 => T_region (L_y (y_eql rfl rfl) rfl (L_y (y_assign rfl) rfl (L_nil (hK6 _ _ ?_)))); refine T_cond rfl (fun h6 => ?_) (fun h6 => ?_)
  ·
   refine T_seq fun K7 hK7 => T_region (L_y (y_assign rfl) rfl (L_nil (hK7 _ _ (T_ret (ur (ret1 rfl rfl ?_)))))); exact ⟨_, rfl, S0.like0, congrArg Value.string (wordS_2 h6)⟩
  ·
   refine T_seq fun K8 hK8 => T_region (L_y (y_eql rfl rfl) rfl (L_y (y_assign rfl) rfl (L_nil (hK8 _ _ ?_)))); refine T_cond rfl (fun h8 => ?_) (fun h8 => ?_)
   ·
    refine T_seq fun K9 hK9 => T_region (L_y (y_assign rfl) rfl (L_nil (hK9 _ _ (T_ret (ur (ret1 rfl rfl ?_)))))); exact ⟨_, rfl, S0.like0, congrArg Value.string (wordS_3 h8)⟩
   ·
    refine T_seq fun K10 hK10 => T_region (L_y (y_eql rfl rfl) rfl (L_y (y_assign rfl) rfl (L_nil (hK10 _ _ ?_)))); refine T_cond rfl (fun h10 => ?_) (fun h10 => ?_)
    ·
     refine T_seq fun K11 hK11 => T_region (L_y (y_assign rfl) rfl (L_nil (hK11 _ _ (T_ret (ur (ret1 rfl rfl ?_)))))); exact ⟨_, rfl, S0.like0, congrArg Value.string (wordS_4 h10)⟩
    ·
     refine T_skip (hK2 _ _ (T_seq fun K12 hK12 => T_region (L_y (y_assign rfl) rfl (L_nil (hK12 _ _ (T_ret (ur (ret1 rfl rfl ?_)))))))); exact ⟨_, rfl, S0.like0, congrArg Value.string (wordS_0 h4 h6 h8 h10)⟩
theorem read (k : Int) (B : Option Addr) (m d : Nat) (b : List UInt8) (w0 : World) (hb : Rs w0 1 B m d (bL b)) :
    Calls Tryz.prog 40 #[.int .i64 k, .slice B m d] w0 fun e w' => ∃ u, e = .returned u ∧ Like w0 w' ∧ ∃ v, u = .tuple #[v, .int .i64 (objE k b)] := by
 refine enter1 (env := [(0, .int .i64 k), (1, .slice B m d)]) [.int .i64 k, .slice B m d] Tryz.func40 rfl Tryz.ntmps40 rfl rfl ?_; have hl := hb.lenb; have hcap := hb.cap; have hmax := hb.max; have S0 := St.start w0 noM; refine T_seq fun K1 hK1 => T_region (L_y (y_assign rfl) rfl (L_y (y_assign rfl) rfl (L_nil (hK1 _ _ (T_seq fun K2 hK2 => T_seq fun K3 hK3 => T_region (L_y (y_move rfl) rfl (L_o (o_call Tryz.func17 rfl rfl (word_ k w0) rfl rfl ?_)))))))); rintro e1 w1 ⟨v1, rfl, l1, rfl⟩; refine ⟨_, rfl, (have S1 := S0.like l1; L_y (y_seql rfl rfl) rfl (L_nil (hK3 _ _ ?_)))⟩; refine T_cond rfl (fun h14 => ?_) (fun h14 => ?_)
 ·
  refine T_seq fun K4 hK4 => T_region (L_y (y_assign rfl) rfl (L_y (y_assign rfl) rfl (L_nil (hK4 _ _ (T_ret (ur (ret2 rfl rfl rfl ?_))))))); have he : objE k b = 19 := by unfold objE; rw [if_pos ((word_nil k).1 h14)]
  exact ⟨_, rfl, S1.like0, _, by first | (rw [he]; done) | (rw [he]; rfl)⟩
 ·
  have hk : 1 ≤ k ∧ k ≤ 4 := Classical.byContradiction fun q => h14 ((word_nil k).2 q); refine T_skip (hK2 _ _ (T_seq fun K5 hK5 => T_seq fun K6 hK6 => T_region (L_y (y_move rfl) rfl (L_y (y_len Tryz.underlying22 rfl) rfl (L_y (y_gtr rfl rfl) rfl (L_nil (hK6 _ _ ?_))))))); refine T_cond rfl (fun h17 => ?_) (fun h17 => ?_)
  ·
   refine T_seq fun K7 hK7 => T_region (L_y (y_assign rfl) rfl (L_y (y_assign rfl) rfl (L_nil (hK7 _ _ (T_ret (ur (ret2 rfl rfl rfl ?_))))))); have he : objE k b = 3 := by unfold objE; rw [if_neg (fun q => q hk), if_pos (by omega)]
   exact ⟨_, rfl, S1.like0, _, by first | (rw [he]; done) | (rw [he]; rfl)⟩
  ·
   refine T_skip (hK5 _ _ (T_seq fun K8 hK8 => T_seq fun K9 hK9 => T_region (L_y (y_move rfl) rfl (L_nil (hK9 _ _ (T_block (T_seq fun K10 hK10 => T_region (L_y (y_eql rfl rfl) rfl (L_y (y_assign rfl) rfl (L_nil ?_)))))))))); refine hK10 _ _ ?_; refine T_cond rfl (fun h19 => ?_) (fun h19 => ?_)
   ·
    refine T_seq fun K11 hK11 => T_region (L_y (y_move rfl) rfl (L_o (o_call Tryz.func73 rfl rfl (get B m d b w1 (S1.rd hb) (by omega)) rfl rfl ?_))); rintro e2 w2 ⟨v2, rfl, l2, A23, k23, c23, rfl⟩; refine ⟨_, rfl, (have S2 := S1.like l2; L_y (y_move rfl) rfl (L_y (y_extract rfl rfl) rfl (L_y (y_extract rfl rfl) rfl (L_y (y_assign rfl) rfl (L_y (y_assign rfl) rfl (L_nil (hK11 _ _ (T_seq fun K12 hK12 => T_region (L_y (y_move rfl) rfl (L_y (y_mkI (by kernel_rfl) rfl) rfl (L_y (y_move rfl) rfl ?_)))))))))))⟩; refine L_y (y_assign rfl) rfl (L_y (y_assign rfl) rfl (L_nil (hK12 _ _ (T_ret (ur (ret2 rfl rfl rfl ?_)))))); have he : objE k b = treeE b := by unfold objE; rw [if_neg (fun q => q hk), if_neg (by omega), if_pos h19]
    exact ⟨_, rfl, S2.like0, _, by first | (rw [he]; done) | (rw [he]; rfl)⟩
   ·
    refine T_seq fun K13 hK13 => T_region (L_y (y_eql rfl rfl) rfl (L_y (y_assign rfl) rfl (L_nil (hK13 _ _ ?_)))); refine T_cond rfl (fun h29 => ?_) (fun h29 => ?_)
    ·
     refine T_seq fun K14 hK14 => T_region (L_y (y_move rfl) rfl (L_o (o_call Tryz.func74 rfl rfl (Rev.getB B m d b w1 (S1.rd hb) (by omega)) rfl rfl ?_))); rintro e3 w3 ⟨v3, rfl, l3, A33, c33, F33, rfl⟩; refine ⟨_, rfl, (have S3 := S1.like l3; L_y (y_move rfl) rfl (L_y (y_extract rfl rfl) rfl (L_y (y_extract rfl rfl) rfl (L_o (o_alloc zz83 S3 rfl fun b4 w4 hb4 S4 => L_o (o_stW S4 0 rfl rfl rfl (by rw [Rev.cmf_sz]; exact sz83) (by first | (rw [Rev.cmf_sz]; done) | (rw [Rev.cmf_sz]; rfl)) (fun u hu => Rev.cmf_one _ u (by rw [List.toList_toArray] at hu; exact hu)) fun w5 S5 => ?_))))))⟩; refine L_y (y_assign rfl) rfl (L_nil (hK14 _ _ (T_seq fun K15 hK15 => T_region (L_y (y_ldW Tryz.underlying83 rfl sz83 rfl (S5.blk 0 rfl) (Rev.cm_whole _)) rfl (L_y (y_mkI (by kernel_rfl) rfl) rfl (L_y (y_move rfl) rfl (L_y (y_assign rfl) rfl (L_y (y_assign rfl) rfl (L_nil (hK15 _ _ (T_ret (ur ?_)))))))))))); refine ret2 rfl rfl rfl ?_; have he : objE k b = Rev.gcode b := by unfold objE; rw [if_neg (fun q => q hk), if_neg (by omega), if_neg h19, if_pos h29]
     exact ⟨_, rfl, S5.like0, _, by first | (rw [he]; done) | (rw [he]; rfl)⟩
    ·
     refine T_seq fun K16 hK16 => T_region (L_y (y_eql rfl rfl) rfl (L_y (y_assign rfl) rfl (L_nil (hK16 _ _ ?_)))); refine T_cond rfl (fun h39 => ?_) (fun h39 => ?_)
     ·
      refine T_seq fun K17 hK17 => T_region (L_y (y_move rfl) rfl (L_o (o_call Tryz.func75 rfl rfl (Rev.getMB B m d b w1 (S1.rd hb) (by omega)) rfl rfl ?_))); rintro e6 w6 ⟨v6, rfl, l6, rfl⟩; refine ⟨_, rfl, (have S6 := S1.like l6; L_y (y_move rfl) rfl (L_y (y_extract rfl rfl) rfl (L_y (y_extract rfl rfl) rfl (L_o (o_alloc zz87 S6 rfl fun b7 w7 hb7 S7 => L_o (o_stW S7 0 rfl rfl rfl (by rw [Rev.mkf_sz]; exact sz87) (by first | (rw [Rev.mkf_sz]; done) | (rw [Rev.mkf_sz]; rfl)) (fun u hu => Rev.mkf_one _ u (by rw [List.toList_toArray] at hu; exact hu)) fun w8 S8 => ?_))))))⟩; refine L_y (y_assign rfl) rfl (L_nil (hK17 _ _ (T_seq fun K18 hK18 => T_region (L_y (y_ldW Tryz.underlying87 rfl sz87 rfl (S8.blk 0 rfl) (Rev.mk_whole _)) rfl (L_y (y_mkI (by kernel_rfl) rfl) rfl (L_y (y_move rfl) rfl (L_y (y_assign rfl) rfl (L_y (y_assign rfl) rfl (L_nil (hK18 _ _ (T_ret (ur ?_)))))))))))); refine ret2 rfl rfl rfl ?_; have he : objE k b = Rev.mcode b := by unfold objE; rw [if_neg (fun q => q hk), if_neg (by omega), if_neg h19, if_neg h29, if_pos h39]
      exact ⟨_, rfl, S8.like0, _, by first | (rw [he]; done) | (rw [he]; rfl)⟩
     ·
      refine T_skip (hK8 _ _ (T_seq fun K19 hK19 => T_region (L_y (y_move rfl) rfl (L_y (y_mkI (by kernel_rfl) rfl) rfl (L_y (y_assign rfl) rfl (L_y (y_assign rfl) rfl (L_nil (hK19 _ _ (T_ret (ur (ret2 rfl rfl rfl ?_))))))))))); have he : objE k b = 0 := by unfold objE; rw [if_neg (fun q => q hk), if_neg (by omega), if_neg h19, if_neg h29, if_neg h39]
      exact ⟨_, rfl, S1.like0, _, by first | (rw [he]; done) | (rw [he]; rfl)⟩
theorem check_ (k : Int) (B : Option Addr) (m d : Nat) (b : List UInt8) (w0 : World) (hb : Rs w0 1 B m d (bL b)) :
    Calls Tryz.prog 15 #[.int .i64 k, .slice B m d] w0 fun e w' => ∃ u, e = .returned u ∧ Like w0 w' ∧ u = .int .i64 (objE k b) := by
 refine enter1 (env := [(0, .int .i64 k), (1, .slice B m d)]) [.int .i64 k, .slice B m d] Tryz.func15 rfl Tryz.ntmps15 rfl rfl ?_; have hl := hb.lenb; have hcap := hb.cap; have hmax := hb.max; have S0 := St.start w0 noM; refine T_seq fun K1 hK1 => T_region (L_y (y_assign rfl) rfl (L_nil (hK1 _ _ (T_seq fun K2 hK2 => T_region (L_y (y_move rfl) rfl (L_y (y_move rfl) rfl (L_o (o_call Tryz.func40 rfl rfl (read k B m d b w0 (S0.rd hb)) rfl rfl ?_)))))))); rintro e1 w1 ⟨v1, rfl, l1, v9, rfl⟩; refine ⟨_, rfl, (have S1 := S0.like l1; L_y (y_move rfl) rfl (L_y (y_extract rfl rfl) rfl (L_y (y_extract rfl rfl) rfl (L_y (y_assign rfl) rfl (L_y (y_assign rfl) rfl (L_nil (hK2 _ _ (T_seq fun K3 hK3 => T_region (L_y (y_move rfl) rfl (L_y (y_assign rfl) rfl (L_nil ?_)))))))))))⟩; refine hK3 _ _ (T_ret (ur (ret1 rfl rfl ?_))); exact ⟨_, rfl, S1.like0, rfl⟩
theorem bytes_ (k : Int) (B : Option Addr) (m d : Nat) (b : List UInt8) (w0 : World) (hb : Rs w0 1 B m d (bL b)) (hm9 : m ≤ 90000) :
    Calls Tryz.prog 12 #[.int .i64 k, .slice B m d] w0 fun e w' => ∃ u, e = .returned u ∧ Like w0 w' ∧ BytesV w0 w' k b u := by
 refine enter1 (env := [(0, .int .i64 k), (1, .slice B m d)]) [.int .i64 k, .slice B m d] Tryz.func12 rfl Tryz.ntmps12 rfl rfl ?_; have hl := hb.lenb; have hcap := hb.cap; have hmax := hb.max; have S0 := St.start w0 noM; refine T_seq fun K1 hK1 => T_region (L_y (y_assign rfl) rfl (L_y (y_assign rfl) rfl (L_nil (hK1 _ _ (T_seq fun K2 hK2 => T_seq fun K3 hK3 => T_region (L_y (y_move rfl) rfl (L_y (y_move rfl) rfl (L_o (o_call Tryz.func15 rfl rfl (check_ k B m d b w0 (S0.rd hb)) rfl rfl ?_))))))))); rintro e1 w1 ⟨v1, rfl, l1, rfl⟩; refine ⟨_, rfl, (have S1 := S0.like l1; L_y (y_assign rfl) rfl (L_nil (hK3 _ _ (T_seq fun K4 hK4 => T_region (L_y (y_move rfl) rfl (L_y (y_neq rfl rfl) rfl (L_nil (hK4 _ _ ?_))))))))⟩; refine T_cond rfl (fun h12 => ?_) (fun h12 => ?_)
 ·
  refine T_seq fun K5 hK5 => T_region (L_y (y_move rfl) rfl (L_y (y_assign rfl) rfl (L_y (y_assign rfl) rfl (L_nil (hK5 _ _ (T_ret (ur (ret2 rfl rfl rfl ?_)))))))); exact ⟨_, rfl, S1.like0, .inl ⟨h12, rfl⟩⟩
 ·
  refine T_skip (hK2 _ _ (T_seq fun K6 hK6 => T_region (L_y (y_move rfl) rfl (L_o (o_call Tryz.func17 rfl rfl (word_ k w1) rfl rfl ?_))))); rintro e2 w2 ⟨v2, rfl, l2, rfl⟩; refine ⟨_, rfl, (have S2 := S1.like l2; L_y (y_cat rfl rfl (by have h9 := wordS_len k; rw [spsz]; omega)) rfl ?_)⟩; refine L_y (y_move rfl) rfl (L_y (y_len Tryz.underlying22 rfl) rfl (L_o (o_call Tryz.func38 rfl rfl (Rev.digits (m : Int) w2 (by omega)) rfl rfl ?_))); rintro e3 w3 ⟨v3, rfl, l3, rfl⟩; refine ⟨_, rfl, ?_⟩; have S3 := S2.like l3; have hd9 := Rev.digS_len (n := (m : Int)) (by omega); have hw9 := wordS_len k; have hs1 : (wordS k ++ (⟨#[32]⟩ : ByteArray)).size = (wordS k).size + 1 := by rw [ByteArray.size_append, spsz]
  have hs2 : ((wordS k ++ (⟨#[32]⟩ : ByteArray)) ++ (⟨(Rev.digS (m : Int)).toArray⟩ : ByteArray)).size = (wordS k).size + 1 + (Rev.digS (m : Int)).length := by rw [ByteArray.size_append, hs1, Rev.bsz (Rev.digS (m : Int))]
  refine L_y (y_cat rfl rfl (by rw [hs1, Rev.bsz (Rev.digS (m : Int))]; omega)) rfl ?_; refine L_o (o_sbytesM Tryz.underlying9 Tryz.underlying22 Tryz.underlying5 rfl (by rw [hs2]; omega) S3 rfl fun bb cc w4 ll S4 => ?_); refine L_y (y_assign rfl) rfl (L_nil (hK6 _ _ (T_seq fun K7 hK7 => T_region (L_y (y_move rfl) rfl (L_o (o_bsl [_] te22 zz5 S4 rfl rfl rfl rfl rfl rfl rfl rfl fun b5 w5 S5 => L_o (o_appM te22 S5 0 rfl rfl rfl (S5.row 1 rfl) (by intro u hu; simp at hu; subst hu; rfl) rfl (by rw [hs2]; omega) (by rw [hs2]; omega) fun AA ca w6 S6 => ?_))))))); refine L_y (y_move rfl) rfl (L_o (o_appM te22 S6 0 rfl rfl rfl (S6.rd hb) (bL_one _) rfl (by rw [hs2]; omega) (by rw [hs2]; omega) fun AB cb w7 S7 => ?_)); refine L_y (y_assign rfl) rfl (L_y (y_assign rfl) rfl (L_nil (hK7 _ _ (T_ret (ur (ret2 rfl rfl rfl ?_)))))); have he : objE k b = 0 := Classical.byContradiction fun q => h12 q; have e1 : (((wordS k ++ (⟨#[32]⟩ : ByteArray)) ++ (⟨(Rev.digS (m : Int)).toArray⟩ : ByteArray)).size + 1 + m) = (objB k b).length := by rw [hdr_size]; unfold objB; simp only [List.length_append, List.length_cons, List.length_nil]; rw [hl]
  have e2 : (bL (((wordS k ++ (⟨#[32]⟩ : ByteArray)) ++ (⟨(Rev.digS (m : Int)).toArray⟩ : ByteArray)).data.toList) ++ [Value.int .u8 0]) ++ bL b = bL (objB k b) := by rw [hdr_list]; unfold objB; rw [hl]; unfold bL; simp only [List.map_append, List.map_cons, List.map_nil]; rfl
  have FF := S7.frM 0 rfl; rw [e1, e2] at FF; exact ⟨_, rfl, S7.like0, .inr ⟨he, _, _, by rw [e1], FF⟩⟩
end Go.Proofs.YtgaklngnfecdaaaGreat.Obj
namespace Go.Proofs.YtgaklngnfecdaaaGreat.Obj
open Go.RowKit Zk Zx
open Oid (idf idf_len)
open Tre (nmOk EV enf enf_len mdOk chkE)
open Rev (cutF cutF_some cutF_none)
section
variable {b p q wd dg : List UInt8}
end
end Go.Proofs.YtgaklngnfecdaaaGreat.Obj
namespace Go.Proofs.YtgaklngnfecdaaaGreat.Obj
open Go.RowKit Zk Zx
open Oid (idf idf_len)
open Tre (nmOk EV enf enf_len mdOk chkE)
open Rev (cutF cutF_some cutF_none)
theorem objE_k {k : Int} {b : List UInt8} (h : objE k b = 0) : (1 ≤ k ∧ k ≤ 4) ∧ b.length ≤ 4000 := by
  unfold objE at h
  split at h
  · cases h
  · rename_i h1
    split at h
    · cases h
    · rename_i h2
      exact ⟨Classical.not_not.1 h1, by omega⟩
theorem wordB_len (k : Int) : (wordB k).length ≤ 6 := by
  unfold wordB
  repeat' split
  all_goals decide
theorem dgt_small {n : Nat} (h : n ≤ 4000) : (Rev.dgt n).length ≤ 4 := Rev.dgt_len 3 n (by omega)
theorem bytesGood (k : Int) (B : Option Addr) (m d : Nat) (b : List UInt8) (w0 : World) (hb : Rs w0 1 B m d (bL b)) (hm9 : m ≤ 90000) (he : objE k b = 0) : Calls Tryz.prog 12 #[.int .i64 k, .slice B m d] w0 fun e w' => ∃ u, e = .returned u ∧ Like w0 w' ∧ ∃ A c, u = .tuple #[.slice A (objB k b).length c, .int .i64 0] ∧ Fr w0 w' 1 A (objB k b).length c (bL (objB k b)) :=
  (bytes_ k B m d b w0 hb hm9).mono fun e w' ⟨u, h1, h2, h3⟩ => by
    rcases h3 with ⟨h, _⟩ | ⟨_, A, c, h4, h5⟩
    · exact absurd he h
    · exact ⟨u, h1, h2, A, c, h4, h5⟩
theorem bytesBad (k : Int) (B : Option Addr) (m d : Nat) (b : List UInt8) (w0 : World) (hb : Rs w0 1 B m d (bL b)) (hm9 : m ≤ 90000) (he : objE k b ≠ 0) : Calls Tryz.prog 12 #[.int .i64 k, .slice B m d] w0 fun e w' => ∃ u, e = .returned u ∧ Like w0 w' ∧ u = .tuple #[.slice none 0 0, .int .i64 (objE k b)] :=
  (bytes_ k B m d b w0 hb hm9).mono fun e w' ⟨u, h1, h2, h3⟩ => by
    rcases h3 with ⟨_, h⟩ | ⟨h, _⟩
    · exact ⟨u, h1, h2, h⟩
    · exact absurd h he
theorem objB_len {k : Int} {b : List UInt8} (h : objE k b = 0) : (objB k b).length ≤ b.length + 20 := by
  obtain ⟨hk, hb⟩ := objE_k h
  have hD := dgt_small hb
  have hW := wordB_len k
  unfold objB
  rw [Rev.digS_nat]
  simp only [List.length_append, List.length_cons, List.length_nil]
  omega
theorem hi_ok : objE 1 [104, 105] = 0 := by unfold objE; rw [if_neg (by decide), if_neg (by decide), if_neg (by decide), if_neg (by decide), if_neg (by decide)]
end Go.Proofs.YtgaklngnfecdaaaGreat.Obj
namespace Go.Proofs.YtgaklngnfecdaaaGreat.Tre
open Go.RowKit Zk Zx
end Go.Proofs.YtgaklngnfecdaaaGreat.Tre
namespace Go.Proofs.YtgaklngnfecdaaaGreat.Obj
open Go.RowKit Zk Zx
open Oid (idf idf_len)
open Tre (nmOk EV enf enf_len mdOk chkE)
open Rev (cutF cutF_some cutF_none)
end Go.Proofs.YtgaklngnfecdaaaGreat.Obj
namespace Go.Proofs.YtgaklngnfecdaaaGreat.Rev
open Go.RowKit Zk Zx
open Oid (idf hexL idf_len readR)
open Tre (nmOk)
end Go.Proofs.YtgaklngnfecdaaaGreat.Rev
namespace Go.Proofs.YtgaklngnfecdaaaGreat.Obj
open Go.RowKit Zk Zx
open Oid (idf idf_len)
open Tre (nmOk EV enf enf_len mdOk chkE)
open Rev (cutF cutF_some cutF_none)
end Go.Proofs.YtgaklngnfecdaaaGreat.Obj
namespace Go.Proofs.YtgaklngnfecdaaaGreat.Obj
open Go.RowKit Zk Zx
open Oid (idf idf_len)
open Tre (nmOk EV enf enf_len mdOk chkE)
open Rev (cutF cutF_some cutF_none)
end Go.Proofs.YtgaklngnfecdaaaGreat.Obj
namespace Go.Proofs.YtgaklngnfecdaaaGreat.Obj
open Go.RowKit Zk Zx
open Oid (idf idf_len)
open Tre (nmOk EV enf enf_len mdOk chkE)
open Rev (cutF cutF_some cutF_none)
end Go.Proofs.YtgaklngnfecdaaaGreat.Obj
namespace Go.Proofs.YtgaklngnfecdaaaGreat.Obj
open Go.RowKit Zk Zx
open Oid (idf idf_len)
open Tre (nmOk EV enf enf_len mdOk chkE)
open Rev (cutF cutF_some cutF_none)
end Go.Proofs.YtgaklngnfecdaaaGreat.Obj
namespace Go.Proofs.YtgaklngnfecdaaaGreat.Obj
open Go.RowKit Zk Zx
open Oid (idf idf_len)
open Tre (nmOk EV enf enf_len mdOk chkE)
open Rev (cutF cutF_some cutF_none)
end Go.Proofs.YtgaklngnfecdaaaGreat.Obj
