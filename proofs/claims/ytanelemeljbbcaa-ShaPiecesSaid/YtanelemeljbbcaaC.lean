/-
  A state and a block, by package sha.
-/
import Derived.Test.YtanelemeljbbcaaB
namespace Go.Proofs.Ytanelemeljbbcaa
open Go.RowKit Zk
set_option linter.unusedVariables false
theorem notI (x : UInt32) : bits .xor .u32 (if IntKind.u32.signed = true then -1 else IntKind.u32.max) (N x) = N (~~~x) := notN x
attribute [local go_sem] xorN addN addW andN notN notI shr3N shr10N

theorem zero35 (W : World) : (zeroValue 35).run Try.prog W = .ok (.agg (uA (List.replicate 8 0))) W := by kernel_rfl
theorem bd8 (a b c d e f g h : UInt32) (W : World) : (Instr.build 35 #[(0, .int .u32 (N a)), (1, .int .u32 (N b)), (2, .int .u32 (N c)), (3, .int .u32 (N d)), (4, .int .u32 (N e)), (5, .int .u32 (N f)), (6, .int .u32 (N g)), (7, .int .u32 (N h))]).run Try.prog W = .ok (.agg (uA [a, b, c, d, e, f, g, h])) W := by kernel_rfl
def kP : List (Nat × Value) := (List.range 64).map fun i => (i, .int .u32 (N (kL.getD i 0)))
theorem bdK (W : World) : (Instr.build 54 kP.toArray).run Try.prog W = .ok (.agg (uA kL)) W := by kernel_rfl
theorem rot_any (x : UInt32) (n : Int) (w : World) (h : n ∈ [(-6 : Int), -11, -25, -2, -13, -22]) : Calls Try.prog 26 #[.int .u32 (N x), .int .i64 n] w fun e w' => e = .returned (.int .u32 (N (rotr x n.natAbs))) ∧ w = w' := by
  simp only [List.mem_cons, List.not_mem_nil, or_false] at h
  rcases h with rfl | rfl | rfl | rfl | rfl | rfl
  · exact rotl6 x w
  · exact rotl11 x w
  · exact rotl25 x w
  · exact rotl2 x w
  · exact rotl13 x w
  · exact rotl22 x w
theorem cell8 {w : World} {g : Nat} {a b c d e f g' h : UInt32} (hb : Blk w g 35 (uA [a, b, c, d, e, f, g', h])) :
    w.cell? ⟨g, 0, none⟩ = some (.int .u32 (N a)) ∧ w.cell? ⟨g, 1, none⟩ = some (.int .u32 (N b)) ∧ w.cell? ⟨g, 2, none⟩ = some (.int .u32 (N c)) ∧ w.cell? ⟨g, 3, none⟩ = some (.int .u32 (N d)) ∧ w.cell? ⟨g, 4, none⟩ = some (.int .u32 (N e)) ∧ w.cell? ⟨g, 5, none⟩ = some (.int .u32 (N f)) ∧ w.cell? ⟨g, 6, none⟩ = some (.int .u32 (N g')) ∧ w.cell? ⟨g, 7, none⟩ = some (.int .u32 (N h)) :=
  ⟨hb.cell 0, hb.cell 1, hb.cell 2, hb.cell 3, hb.cell 4, hb.cell 5, hb.cell 6, hb.cell 7⟩

set_option maxRecDepth 8000 in
theorem constants_any (w : World) : Calls Try.prog 24 #[] w fun e w' => e = .returned (.agg (uA kL)) ∧ Below w.heap.size w w' := by
  go_enter Try.func24, Try.ntmps24
  go_wp2_with (first
    | ((with_reducible refine at_dst 0 ?_); refine wpList_alB rfl 54 rfl _ zero54 ?_; intro w1 hb1 hg1)
    | ((with_reducible refine at_dst 1 ?_); refine wpList_bdl rfl 54 _ rfl kP (by kernel_rfl) _ bdK ?_)
    | ((with_reducible refine at_store 1 ?_); refine wpList_stW rfl 54 _ _ rfl w.heap.size rfl (uA kL) rfl 54 (uA z64) hb1 size54 rfl (uL_one _) ?_; intro w2 hb2 hg2))
  refine bodyPost_ret (resB rfl _ rfl hb2 _ Try.underlying54 rfl size54) rfl ⟨rfl, ?_⟩
  exact bS (bN (Below.refl _ w) hg1) hg2 (Nat.le_refl _)

/-- A sum of two lists, its first k entries, and the rest of the one. -/
def mixL (r v : List UInt32) (k : Nat) : List UInt32 := (List.zipWith (· + ·) r v).take k ++ r.drop k
theorem length_mixL (r v : List UInt32) (k : Nat) (h1 : r.length = 8) (h2 : v.length = 8) : (mixL r v k).length = 8 := by
  simp [mixL, h1, h2]; omega
theorem mixL_get (r v : List UInt32) (k : Nat) (x : UInt32) (h1 : r.length = 8) (h2 : v.length = 8) (hk : r[k]? = some x) : (mixL r v k)[k]? = some x := by
  have hk8 : k < 8 := by rw [← h1]; exact (List.getElem?_eq_some_iff.1 hk).1
  unfold mixL
  rw [List.getElem?_append_right (by simp [h1, h2]; omega)]
  have e : k - ((List.zipWith (· + ·) r v).take k).length = 0 := by simp [h1, h2]; omega
  rw [e, List.getElem?_drop]
  simpa using hk
theorem mixL_set (r v : List UInt32) (k : Nat) (x y : UInt32) (h1 : r.length = 8) (h2 : v.length = 8) (hk : r[k]? = some x) (hv : v[k]? = some y) : (mixL r v k).set k (x + y) = mixL r v (k + 1) := by
  have hk8 : k < 8 := by rw [← h1]; exact (List.getElem?_eq_some_iff.1 hk).1
  have hz : (List.zipWith (· + ·) r v)[k]? = some (x + y) := by rw [List.getElem?_zipWith, hk, hv]
  unfold mixL
  have hl : ((List.zipWith (· + ·) r v).take k).length = k := by simp [h1, h2]; omega
  rw [List.set_append_right _ _ (by omega), hl, Nat.sub_self, List.drop_eq_getElem_cons (by omega), List.set_cons_zero, List.take_add_one, hz]
  simp
theorem mixL_all (u v : St) : mixL u.list v.list 8 = (u.add v).list := rfl
@[simp] theorem length_list (v : St) : v.list.length = 8 := rfl

set_option maxHeartbeats 8000000 in
set_option maxRecDepth 4000 in
theorem mix_any (v : St) (g off c : Nat) (b : List UInt8) (w : World) (hb : b.length = 64) (hr : Reads w w.heap.size 1 (some ⟨g, off, none⟩) 64 (bL b)) :
    Calls Try.prog 21 #[.agg (uA v.list), .slice (some ⟨g, off, none⟩) 64 c] w fun e w' => e = .returned (.agg (uA (blockS v b).list)) ∧ Below w.heap.size w w' := by
  obtain ⟨S, hS⟩ : ∃ S, sched b 64 = S := ⟨_, rfl⟩
  have hlS : S.length = 64 := by rw [← hS]; exact length_sched b 64
  have hsp : ∀ W : World, Reads W W.heap.size 1 (some ⟨g, off, none⟩) 64 (bL b) → Calls Try.prog 25 #[.slice (some ⟨g, off, none⟩) 64 c] W fun e w' => e = .returned (.agg (uA S)) ∧ Below W.heap.size W w' := fun W h => by
    rw [← hS]
    exact spread_any g off c b W hb h
  have hi4 : (Try.prog.info? 54).map (·.size) = some (uA S).size := by rw [size_uA, hlS]; exact size54
  have hl4 : (uA S).size = (uA z64).size := by rw [size_uA, hlS]; rfl
  rw [show blockS v b = (rounds S v 64).add v by rw [blockS, hS]]
  have HI4 := Lib.hid hi4
  have HL4 := Lib.hid hl4
  have HLS := Lib.hid hlS
  have HSP := Lib.hid hsp
  clear hb hlS hsp hi4 hl4 hS
  go_enter Try.func21, Try.ntmps21
  go_wp2_with (first
    | ((with_reducible refine at_dst 2 ?_); refine wpList_bxB rfl 35 _ rfl (uA v.list) rfl ?_; intro w1 hb1 hg1)
    | ((with_reducible refine at_dst 4 ?_); refine wpList_alB rfl 35 rfl _ zero35 ?_; intro w2 hb2 hg2))
  refine (constants_any _).mono ?_
  rintro e w3 ⟨rfl, hB3⟩
  have B3 := bT (bN (bN (Below.refl _ w) hg1) hg2) hB3
  have b3a := (hb1.grown hg2 (by simp)).below hB3 (Nat.lt_of_lt_of_le hb1.lt hg2.size)
  have b3b := hb2.below hB3 hb2.lt
  have l1 := hb1.lt
  have l2 := hb2.lt
  have l3 := hB3.size
  go_wp2_with (first
    | ((with_reducible refine at_dst 5 ?_); refine wpList_alB rfl 54 rfl _ zero54 ?_; intro w4 hb4 hg4)
    | ((with_reducible refine at_store 14 ?_); refine wpList_stW rfl 54 _ _ rfl w3.heap.size rfl (uA kL) rfl 54 (uA z64) hb4 size54 rfl (uL_one _) ?_; intro w5 hb5 hg5))
  have B5 := bS (bN B3 hg4) hg5 (by omega)
  have b5a := (b3a.grown hg4 (by simp)).grown hg5 (by simp; omega)
  have b5b := (b3b.grown hg4 (by simp)).grown hg5 (by simp; omega)
  have l5 := hb5.lt
  refine (HSP.out _ ((hr.below B5).more B5.size)).mono ?_
  rintro e w6 ⟨rfl, hB6⟩
  have B6 := bT B5 hB6
  have b6a := b5a.below hB6 b5a.lt
  have b6b := b5b.below hB6 b5b.lt
  have b6c := hb5.below hB6 hb5.lt
  have l6 := hB6.size
  clear hr HSP b3a b3b b5a b5b hB3 hB6 B3 B5 hb1 hb2 hb4 hb5 hg1 hg2 hg4 hg5
  go_wp2_with (first
    | ((with_reducible refine at_dst 6 ?_); refine wpList_alB rfl 54 rfl _ zero54 ?_; intro w7 hb7 hg7)
    | ((with_reducible refine at_store 16 ?_); refine wpList_stW rfl 54 _ _ rfl w6.heap.size rfl (uA S) rfl 54 (uA z64) hb7 HI4.out HL4.out (uL_one _) ?_; intro w8 hb8 hg8
       have b8a := (b6a.grown hg7 (by simp)).grown hg8 (by simp; omega))
    | ((with_reducible refine at_dst 17 ?_); refine wpList_load_row rfl 35 _ rfl w.heap.size rfl 35 _ (0,0) _ b8a Try.underlying35 rfl size35 ?_)
    | ((with_reducible refine at_dst 7 ?_); refine wpList_alB rfl 35 rfl _ zero35 ?_; intro w9 hb9 hg9)
    | ((with_reducible refine at_store 17 ?_); refine wpList_stW rfl 35 _ _ rfl w8.heap.size rfl (uA v.list) rfl 35 _ hb9 size35 rfl (uL_one _) ?_; intro w10 hb10 hg10))
  have l7 := hb7.lt
  have l8 := hb8.lt
  have l8' := hg8.size
  have l7' := hg7.size
  have l10 := hb10.lt
  have c2 := (b8a.grown hg9 (by simp)).grown hg10 (by simp; omega)
  have c4 := (((b6b.grown hg7 (by simp)).grown hg8 (by simp; omega)).grown hg9 (by simp)).grown hg10 (by simp; omega)
  have c5 := (((b6c.grown hg7 (by simp)).grown hg8 (by simp; omega)).grown hg9 (by simp)).grown hg10 (by simp; omega)
  have c6 := (hb8.grown hg9 (by simp)).grown hg10 (by simp; omega)
  have c7 := hb10
  have B10 := bS (bN (bS (bN B6 hg7) hg8 (by omega)) hg9) hg10 (by omega)
  have m4 : w.heap.size ≤ w1.heap.size := by omega
  have m7 : w.heap.size ≤ w8.heap.size := by omega
  have n27 : w.heap.size ≠ w8.heap.size := by omega
  have n47 : w1.heap.size ≠ w8.heap.size := by omega
  have n57 : w3.heap.size ≠ w8.heap.size := by omega
  have n67 : w6.heap.size ≠ w8.heap.size := by omega
  clear hb7 hg7 hb8 hg8 hb9 hg9 hb10 hg10 b8a b6a b6b b6c B6 l1 l2 l3 l5 l6 l7 l8 l8' l7' l10
  generalize hg0 : w.heap.size = g2 at c2 c4 c5 c6 c7 m4 m7 n27 ⊢
  generalize w1.heap.size = g4 at *
  generalize w3.heap.size = g5 at *
  generalize w6.heap.size = g6 at *
  generalize w8.heap.size = g7 at *
  clear w1 w2 w3 w4 w5 w6 w7 w8 w9
  go_loopw [18] (fun v18 wr => ∃ k : Nat, k ≤ 64 ∧ v18 = .int .i64 k ∧ Blk wr g2 35 (uA v.list) ∧ (∃ z, z.size = 8 ∧ Blk wr g4 35 z) ∧ Blk wr g5 54 (uA kL) ∧ Blk wr g6 54 (uA S) ∧ Blk wr g7 35 (uA (rounds S v k).list) ∧ Below w.heap.size w wr) (fun v18 _ => 64 - (intOf v18).toNat)
  case atStart => exact ⟨0, by omega, rfl, c2, ⟨_, rfl, c4⟩, c5, c6, c7, B10⟩
  clear c2 c4 c5 c6 c7 B10
  case round =>
    obtain ⟨k, hk, rfl, d2, d4, d5, d6, d7, hB⟩ := hrel
    by_cases hlt : k < 64
    · obtain ⟨kk, hkk⟩ : ∃ x, kL[k]? = some x := ⟨_, List.getElem?_eq_getElem (by simpa [kL] using hlt)⟩
      obtain ⟨ss, hss⟩ : ∃ x, S[k]? = some x := ⟨_, List.getElem?_eq_getElem (by rw [HLS.out]; exact hlt)⟩
      have hrn : Hid (rounds S v (k + 1) = rnd kk ss (rounds S v k)) := by
        show _ = _
        simp only [rounds, List.getD_eq_getElem?_getD, hkk, hss, Option.getD_some]
      have hck := (d5.cell k).trans (uA_get _ _ _ hkk)
      have hcs := (d6.cell k).trans (uA_get _ _ _ hss)
      clear hkk hss
      generalize rounds S v k = s at *
      obtain ⟨a, b', c', d, e, f, g', h⟩ := s
      simp only [St.list] at d7
      obtain ⟨e0, e1, e2, e3, e4, e5, e6, e7⟩ := cell8 d7
      go_wp2_with fail
      go_quiet (fail)
      go_wp2_with fail
      replace d2 := d2.drewN nq
      replace d5 := d5.drewN nq
      replace d6 := d6.drewN nq
      replace d7 := d7.drewN nq
      replace hB := below_drewN hB nq
      replace d4 : ∃ z, z.size = 8 ∧ Blk (wr.drewN nq) g4 35 z := d4
      replace hck : (wr.drewN nq).cell? ⟨g5, k, none⟩ = some (.int .u32 (N kk)) := hck
      replace hcs : (wr.drewN nq).cell? ⟨g6, k, none⟩ = some (.int .u32 (N ss)) := hcs
      generalize wr.drewN nq = wq at *
      obtain ⟨e0, e1, e2, e3, e4, e5, e6, e7⟩ := cell8 d7
      have x5 := cell_ext e5
      have x6 := cell_ext e6
      have x7 := cell_ext e7
      have xk := cell_ext hck
      have xs := cell_ext hcs
      refine wp_region_ext (by kernel_rfl) (by kernel_rfl) ?_
      repeat (go_big_quiet_step ((go_at_call 26; exact calls_ext_same (rot_any _ _ _ (by decide)))))
      refine wpQuiet_nil ?_
      rintro _ ⟨x, rfl⟩
      have hx := ext_below wq x
      generalize hT1 : h + (rotr e 6 ^^^ rotr e 11 ^^^ rotr e 25) + ((e &&& f) ^^^ (~~~e &&& g')) + kk + ss = T1
      have HT1 : Hid (T1 = t1 kk ss ⟨a, b', c', d, e, f, g', h⟩) := hT1.symm
      clear hT1
      replace d2 := blk_ext d2 x
      replace d5 := blk_ext d5 x
      replace d6 := blk_ext d6 x
      replace d7 := blk_ext d7 x
      replace d4 : ∃ z, z.size = 8 ∧ Blk (ext wq x) g4 35 z := d4.imp fun z hz => ⟨hz.1, blk_ext hz.2 x⟩
      replace hB := bT hB hx
      clear hx xk xs x5 x6 x7 e0 e1 e2 e3 e4 e5 e6 e7 hck hcs
      generalize ext wq x = wy at *
      clear x wq
      obtain ⟨e0, e1, e2, e3, e4, e5, e6, e7⟩ := cell8 d7
      have x1 := cell_ext e1
      have x2 := cell_ext e2
      go_wp2_with fail
      refine wp_region_ext (by kernel_rfl) (by kernel_rfl) ?_
      repeat (go_big_quiet_step ((go_at_call 26; exact calls_ext_same (rot_any _ _ _ (by decide)))))
      refine wpQuiet_nil ?_
      rintro _ ⟨x, rfl⟩
      have hx := ext_below wy x
      generalize hT2 : (rotr a 2 ^^^ rotr a 13 ^^^ rotr a 22) + (a &&& b' ^^^ a &&& c' ^^^ b' &&& c') = T2
      have HT2 : Hid (T2 = t2 ⟨a, b', c', d, e, f, g', h⟩) := hT2.symm
      clear hT2
      replace d2 := blk_ext d2 x
      replace d5 := blk_ext d5 x
      replace d6 := blk_ext d6 x
      replace d7 := blk_ext d7 x
      replace d4 : ∃ z, z.size = 8 ∧ Blk (ext wy x) g4 35 z := d4.imp fun z hz => ⟨hz.1, blk_ext hz.2 x⟩
      replace hB := bT hB hx
      clear hx x1 x2 e0 e1 e2 e3 e4 e5 e6 e7
      generalize ext wy x = wz at *
      obtain ⟨e0, e1, e2, e3, e4, e5, e6, e7⟩ := cell8 d7
      go_wp2_with (first
        | ((with_reducible refine at_dst 96 ?_); refine wpList_bdl rfl 35 _ rfl [(0, .int .u32 (N (T1 + T2))), (1, .int .u32 (N a)), (2, .int .u32 (N b')), (3, .int .u32 (N c')), (4, .int .u32 (N (d + T1))), (5, .int .u32 (N e)), (6, .int .u32 (N f)), (7, .int .u32 (N g'))] (by rfl) _ (bd8 _ _ _ _ _ _ _ _) ?_)
        | ((with_reducible refine at_store 96 ?_); refine wpList_stW rfl 35 _ _ rfl g7 rfl (uA [T1 + T2, a, b', c', d + T1, e, f, g']) rfl 35 _ d7 size35 rfl (uL_one _) ?_; intro wv hbv hgv))
      have hst : [T1 + T2, a, b', c', d + T1, e, f, g'] = (rounds S v (k + 1)).list := by
        rw [hrn.out, HT1.out, HT2.out]
        rfl
      rw [hst] at hbv
      exact ⟨⟨k + 1, by omega, by go_num, d2.grown hgv (by simp; omega), d4.imp fun z hz => ⟨hz.1, hz.2.grown hgv (by simp; omega)⟩, d5.grown hgv (by simp; omega), d6.grown hgv (by simp; omega), hbv, bS hB hgv (by omega)⟩, by simp [intOf]; omega⟩
    · obtain rfl : k = 64 := by omega
      generalize hu : rounds S v 64 = u at *
      have HU := Lib.hid hu
      clear hu
      obtain ⟨z, hz8, d4⟩ := d4
      have HZ := Lib.hid hz8
      clear hz8
      go_wp2_with fail
      go_loopw [98] (fun v98 wr => ∃ k : Nat, k ≤ 8 ∧ v98 = .int .i64 k ∧ Blk wr g2 35 (uA v.list) ∧ Blk wr g4 35 z ∧ Blk wr g7 35 (uA (mixL u.list v.list k)) ∧ Below w.heap.size w wr) (fun v98 _ => 8 - (intOf v98).toNat)
      case atStart => exact ⟨0, by omega, rfl, d2, d4, d7, hB⟩
      clear d2 d4 d5 d6 d7 hB
      case round =>
        obtain ⟨k, hk, rfl, d2, d4, d7, hB⟩ := hrel
        by_cases hlt : k < 8
        · obtain ⟨x, hx⟩ : ∃ x, u.list[k]? = some x := ⟨_, List.getElem?_eq_getElem (by simpa using hlt)⟩
          obtain ⟨y, hy⟩ : ∃ x, v.list[k]? = some x := ⟨_, List.getElem?_eq_getElem (by simpa using hlt)⟩
          have hset0 := mixL_set u.list v.list k x y rfl rfl hx hy
          have c7 := (d7.cell k).trans (uA_get _ _ _ (mixL_get u.list v.list k x rfl rfl hx))
          have c2 := (d2.cell k).trans (uA_get _ _ _ hy)
          have hfr := d7.frozen k
          have hset := d7.drew.set_ k (.int .u32 (N (x + y)))
          rw [uA_set, hset0] at hset
          have HS0 := Lib.hid hset
          clear hset0 hset hx hy
          go_wp2_with fail
          go_still_tail 8, (by kernel_rfl)
          change wpList _ _ _ _ _ wr.drew
          go_wp2
          refine ⟨?_, ?measure2⟩
          repeat apply Exists.intro
          refine ⟨?rel2, rfl⟩
          case rel2 => exact ⟨k + 1, by omega, by go_num, d2.far (by simp; omega) _, d4.far (by simp; omega) _, HS0.out, (hB.setCell (by simp; omega) _).drew⟩
          case measure2 => simp [intOf]; omega
        · obtain rfl : k = 8 := by omega
          rw [mixL_all] at d7
          go_wp2_with (first
            | ((with_reducible refine at_dst 110 ?_); refine wpList_load_row rfl 35 _ rfl g7 rfl 35 _ (0,0) _ d7 Try.underlying35 rfl size35 ?_)
            | ((with_reducible refine at_store 110 ?_); refine wpList_stW rfl 35 _ _ rfl g4 rfl (uA (u.add v).list) rfl 35 z d4 size35 (by rw [HZ.out]; rfl) (uL_one _) ?_; intro we hbe hge))
          refine bodyPost_ret (resB rfl _ rfl hbe _ Try.underlying35 rfl size35) rfl ⟨by rw [HU.out], ?_⟩
          exact bS hB hge (by omega)
end Go.Proofs.Ytanelemeljbbcaa
