/-
  Fits of the reference; the walk of OidFits.
-/
import Derived.Test.YtblbcmkhgjlpcaaK
import Derived.Deep.RegionWith
import Derived.Deep.RegionLaw
namespace Go.Proofs.Ytblbcmkhgjlpcaa
open Go.RowKit Zk
set_option linter.unusedVariables false

theorem own_cells {w : World} {base g c : Nat} {z : List UInt8} (ho : w.ownsRow base 3 1 (.slice (some ⟨g, 0, none⟩) 64 c) 64 (iL (digL z))) (h : z.length = 32) :
    ∀ k, k < 64 → w.cell? ⟨g, k, none⟩ = some (.int .i64 (nibN z k : Int)) := fun k hk => by
  rw [ho.cellAt k (by omega)]
  exact iL_get _ _ _ (digL_nib z k (by rw [h]; omega))
theorem own_at {w : World} {base : Nat} {A : Option Addr} {c : Nat} {xs : List Value} (ho : w.ownsRow base 3 1 (.slice A 64 c) 64 xs) : ∃ g, A = some ⟨g, 0, none⟩ ∧ g < w.heap.size := by
  obtain ⟨g, cap, hv, _, hlt⟩ := ho.form (by omega)
  injection hv with h1
  exact ⟨g, h1, hlt⟩
theorem cells_below {w w' : World} {g : Nat} {f : Nat → Value} (h : ∀ k, k < 64 → w.cell? ⟨g, k, none⟩ = some (f k)) (hb : Below w.heap.size w w') : ∀ k, k < 64 → w'.cell? ⟨g, k, none⟩ = some (f k) := fun k hk =>
  (hb.cell (by exact World.block_lt_of_cell? w _ (h k hk))).trans (h k hk)

theorem yields_ldB {P : Program} {S : World → Prop} {ops : Array Oper} {o : Oper} {a : Act} (hw : Region.wanted o (yielded ops a.tmps) = true) (ty : TypeId) (x : Operand) (ho : o.op = .load ty x)
    (g off : Nat) (hx : a.eval x = .pointer (some ⟨g, off, none⟩)) (t : TypeId) (cs : Array Value) (hb : ∀ w, S w → Blk w g t cs) (vs : List Value) (hv : (cs.toList.drop off).take vs.length = vs)
    (d : TypeDesc) (hu : P.underlying ty = some d) (hd : d.isRow = true) (hi : (P.info? ty).map (·.size) = some vs.length) : YieldsIf P ops S o (.agg vs.toArray) a :=
  .inl ⟨hw, fun w hS => by
    have hr : w.rangeAt g off vs := fun j v hj => by
      rw [(hb w hS).cell]
      have h2 : ((cs.toList.drop off).take vs.length)[j]? = some v := by rw [hv]; exact hj
      rw [List.getElem?_take] at h2
      split at h2
      · rw [List.getElem?_drop] at h2
        simpa using h2
      · cases h2
    unfold execOp
    simp only [ho, hx, Instr.loadAt, Instr.sureAddr, Sem.run_bind, Sem.run_pure, Result.andThen_ok, run_loadVar_mid w g off ty vs d hr hu hd hi]⟩

set_option maxHeartbeats 1000000 in
theorem rfits_any (z : List UInt8) (n : Int) (id : List UInt8) (w : World) (h0 : z.length = 32) (h1 : id.length = 32) :
    Calls Try.prog 19 #[.agg (bA z), .int .i64 n, .agg (bA id)] w fun e w' => e = .returned (.bool (fitsB z n id)) ∧ Below w.heap.size w w' := by
  have H0 := Lib.hid h0
  have H1 := Lib.hid h1
  clear h0 h1
  by_cases hr : rightB z n = true
  · have hn : 0 ≤ n ∧ n ≤ 64 := by simp [rightB] at hr; exact ⟨hr.1, hr.2.1⟩
    obtain ⟨m, rfl⟩ := Int.eq_ofNat_of_zero_le hn.1
    have hm : m ≤ 64 := by omega
    have hcs : cutL z m = z := by
      simp only [rightB, Bool.and_eq_true, beq_iff_eq, Int.toNat_natCast] at hr
      exact hr.2.2
    have hra : ∀ W, Calls Try.prog 17 #[.agg (bA z), .int .i64 (m : Int)] W fun e w' => e = .returned (.bool true) ∧ Below W.heap.size W w' := fun W => by
      have := rright_any z m W H0.out
      rwa [hr] at this
    have HCS := Lib.hid hcs
    have HR := Lib.hid hr
    have HRA := Lib.hid hra
    clear hr hra hn hcs
    go_enter Try.func19, Try.ntmps19
    go_wp2_with (first
      | ((with_reducible refine at_dst 3 ?_); refine wpList_bxB rfl 23 _ rfl (bA z) rfl ?_; intro w1 hb1 hg1)
      | ((with_reducible refine at_dst 5 ?_); refine wpList_bxB rfl 23 _ rfl (bA id) rfl ?_; intro w2 hb2 hg2; have hb1' := hb1.grown hg2 (by simp))
      | ((with_reducible refine at_dst 10 ?_); refine wpList_load_row rfl 23 _ rfl w.heap.size rfl 23 _ (0,0) _ hb1' Try.underlying23 rfl (size23A _ H0.out) ?_))
    refine (HRA.out w2).mono ?_
    rintro e w3 ⟨rfl, hB3⟩
    have d1 := hb1'.below hB3 hb1'.lt
    have d2 := hb2.below hB3 hb2.lt
    have c3 := bT (bN (bN (Below.refl _ w) hg1) hg2) hB3
    have l1 := d1.lt
    have l2 := d2.lt
    go_wp2_with fail
    refine wp_region_held_drew (S := fun w' => Below w3.heap.size w3 w') (by kernel_rfl) (Below.refl _ _).drew (fun hH => ?_)
    refine wpAnyH_take (i := 0) (oi := ⟨some 14, .load 23 (.tmp 3), _, _, _, _⟩) (v := .agg (bA z).toList.toArray) rfl (by kernel_rfl) (by kernel_rfl) (by kernel_rfl) (fun _ _ _ h => h) (yields_ldB (by rfl) 23 _ rfl w.heap.size 0 rfl 23 (bA z) (fun w' h => d1.below h l1) (bA z).toList (whole_take _) _ Try.underlying23 rfl (size23T _ H0.out)) hH ?_
    try go_frame
    refine wpAnyH_take (i := 2) (oi := ⟨some 16, .load 23 (.tmp 5), _, _, _, _⟩) (v := .agg (bA id).toList.toArray) rfl (by kernel_rfl) (by kernel_rfl) (by kernel_rfl) (fun _ _ _ h => h) (yields_ldB (by rfl) 23 _ rfl w1.heap.size 0 rfl 23 (bA id) (fun w' h => d2.below h l2) (bA id).toList (whole_take _) _ Try.underlying23 rfl (size23T _ H1.out)) hH ?_
    try go_frame
    simp only [Array.toArray_toList]
    refine wpAnyH_ready (rs := [1]) (by kernel_rfl) (by simp) (AllReadyH.cons (i := 1) rfl (fun K hK => ?_) AllReadyH.nil)
    go_simp
    refine (digits_any z _ H0.out).mono ?_
    rintro e wz ⟨Az, cz, rfl, hoz, hBz⟩
    have hH2 : Below w3.heap.size w3 wz := hH.trans (hBz.mono (Nat.le_refl _))
    refine hK.out _ _ hH2 (fun _ => ?_)
    clear hK K
    try go_frame
    refine wpAnyH_ready (rs := [3]) (by kernel_rfl) (by simp) (AllReadyH.cons (i := 3) rfl (fun K hK => ?_) AllReadyH.nil)
    go_simp
    refine (digits_any id _ H1.out).mono ?_
    rintro e wi ⟨Ai, ci, rfl, hoi, hBi⟩
    have hH3 := bT hH2 hBi
    refine hK.out _ _ hH3 (fun _ => ?_)
    clear hK K
    try go_frame
    refine wpAnyH_take (i := 4) (oi := ⟨some 7, .assign (.tmp 15), _, _, _, _⟩) (v := .slice Az 64 cz) rfl (by kernel_rfl) (by kernel_rfl) (by kernel_rfl) (fun _ _ _ h => h) (.inl ⟨by rfl, fun w _ => rfl⟩) hH3 ?_
    try go_frame
    refine wpAnyH_take (i := 5) (oi := ⟨some 8, .assign (.tmp 17), _, _, _, _⟩) (v := .slice Ai 64 ci) rfl (by kernel_rfl) (by kernel_rfl) (by kernel_rfl) (fun _ _ _ h => h) (.inl ⟨by rfl, fun w _ => rfl⟩) hH3 ?_
    try go_frame
    refine wpAnyH_done (by kernel_rfl) ?_ _
    obtain ⟨gz, rfl, hgz⟩ := own_at hoz
    obtain ⟨gi, rfl, hgi⟩ := own_at hoi
    have cz := cells_below (own_cells hoz H0.out) hBi
    have ci := own_cells hoi H1.out
    have CZ := Lib.hid cz
    have CI := Lib.hid ci
    clear cz ci
    have c4 := bT c3 hH3
    go_wp2_with fail
    go_loopw [9] (fun v9 wr => ∃ k : Nat, k ≤ m ∧ v9 = .int .i64 k ∧ Hid (∀ j, j < k → nibN z j = nibN id j) ∧ Below wi.heap.size wi wr) (fun v9 _ => m - (intOf v9).toNat)
    case atStart => exact ⟨0, Nat.zero_le _, rfl, fun j h => absurd h (by omega), Below.refl _ _⟩
    case round =>
      obtain ⟨k, hk, rfl, HK, hBr⟩ := hrel
      by_cases hlt : k < m
      · have hc1 := cells_below CZ.out hBr k (by omega)
        have hc2 := cells_below CI.out hBr k (by omega)
        have hn1 := nib_lt z k
        have hn2 := nib_lt id k
        have hi : (k : Int) < ((64 : Nat) : Int) := by omega
        generalize hx : nibN z k = x at hc1 hn1
        generalize hy : nibN id k = y at hc2 hn2
        have HX := Lib.hid hx
        have HY := Lib.hid hy
        clear hx hy
        by_cases hxy : x = y
        · have hne : ((x : Int) != (y : Int)) = false := by rw [hxy]; simp
          have HXY := Lib.hid hxy
          clear hxy
          go_wp2_with fail
          go_quiet (fail)
          go_wp2
          go_roundw
          case rel => exact ⟨k + 1, by omega, by go_num, fun j h => by
            rcases Nat.lt_or_ge j k with h2 | h2
            · exact HK.out j h2
            · obtain rfl : j = k := by omega
              rw [HX.out, HY.out, HXY.out], below_drewN hBr _⟩
          case measure => simp [intOf]; omega
        · have hne : ((x : Int) != (y : Int)) = true := by rw [bne_iff_ne]; omega
          have hres : Hid (fitsB z (m : Int) id = false) := by
            show _ = _
            by_cases he : cutL id m = z
            · have := (cut_fits z id m H0.out HCS.out).1 he k hlt (by omega)
              rw [HX.out, HY.out] at this
              exact absurd this hxy
            · simp [fitsB, he]
          clear hxy
          go_wp2_with fail
          go_quiet (fail)
          go_wp2
          go_ret
          exact ⟨ret_bool hres.out.symm, bT c4 (below_drewN hBr _)⟩
      · obtain rfl : k = m := by omega
        have hres : Hid (fitsB z (k : Int) id = true) := by
          show _ = _
          have := (cut_fits z id k H0.out HCS.out).2 (fun j h _ => HK.out j h)
          simp [fitsB, HR.out, this]
        go_wp2
        go_ret
        exact ⟨ret_bool hres.out.symm, bT c4 hBr⟩
  · have hr' : rightB z n = false := by simpa using hr
    have hra : ∀ W, Calls Try.prog 17 #[.agg (bA z), .int .i64 n] W fun e w' => e = .returned (.bool false) ∧ Below W.heap.size W w' := fun W => by
      have := rright_any z n W H0.out
      rwa [hr'] at this
    have HR := Lib.hid hr'
    have HRA := Lib.hid hra
    clear hr hr' hra
    go_enter Try.func19, Try.ntmps19
    go_wp2_with (first
      | ((with_reducible refine at_dst 3 ?_); refine wpList_bxB rfl 23 _ rfl (bA z) rfl ?_; intro w1 hb1 hg1)
      | ((with_reducible refine at_dst 5 ?_); refine wpList_bxB rfl 23 _ rfl (bA id) rfl ?_; intro w2 hb2 hg2; have hb1' := hb1.grown hg2 (by simp))
      | ((with_reducible refine at_dst 10 ?_); refine wpList_load_row rfl 23 _ rfl w.heap.size rfl 23 _ (0,0) _ hb1' Try.underlying23 rfl (size23A _ H0.out) ?_))
    refine (HRA.out w2).mono ?_
    rintro e w3 ⟨rfl, hB3⟩
    go_wp2
    go_ret
    exact ⟨ret_bool (by simp [fitsB, HR.out]), bT (bN (bN (Below.refl _ w) hg1) hg2) hB3⟩
end Go.Proofs.Ytblbcmkhgjlpcaa
