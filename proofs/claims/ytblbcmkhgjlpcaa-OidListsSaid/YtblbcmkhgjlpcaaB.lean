/-
  What Begin and Read return.
-/
import Derived.Test.YtblbcmkhgjlpcaaA
namespace Go.Proofs.Ytblbcmkhgjlpcaa
open Go.RowKit Zk
set_option linter.unusedVariables false

theorem zero30 (W : World) : (zeroValue 30).run Try.prog W = .ok (.agg (pfA z32 0)) W := by kernel_rfl
theorem zero23 (W : World) : (zeroValue 23).run Try.prog W = .ok (.agg (bA z32)) W := by kernel_rfl
theorem pfA_one (z : List UInt8) (n : Int) : ∀ u ∈ (pfA z n).toList, u.oneCell' = true := by
  intro u hu
  simp only [pfA, List.toList_toArray, List.mem_append, List.mem_singleton] at hu
  rcases hu with hu | rfl
  · exact bL_one z u hu
  · rfl
theorem pfA_set (z : List UInt8) (n : Int) (j : Nat) (c : UInt8) (hj : j < z.length) : (pfA z n).setIfInBounds j (.int .u8 (c.toNat : Int)) = pfA (z.set j c) n := by
  simp only [pfA, bL, List.setIfInBounds_toArray, List.map_set]
  rw [List.set_append_left _ _ (by simpa using hj)]
  rfl
theorem pfA_get (z : List UInt8) (n : Int) (j : Nat) (c : UInt8) (h : z[j]? = some c) : (pfA z n)[j]? = some (.int .u8 (c.toNat : Int)) := by
  have hl : j < z.length := (List.getElem?_eq_some_iff.1 h).1
  simp only [pfA, List.getElem?_toArray]
  rw [List.getElem?_append_left (by simpa using hl)]
  exact bL_get z j c h

theorem build30 (n : Int) (W : World) : (Instr.build 30 #[(1, .int .i64 n)]).run Try.prog W = .ok (.agg (pfA z32 n)) W := by kernel_rfl
theorem build30_0 (W : World) : (Instr.build 30 #[]).run Try.prog W = .ok (.agg (pfA z32 0)) W := by kernel_rfl



theorem or_even (d : Nat) (h : d < 16) : bits .or .u8 0 ((d : Int) * 16) = ((UInt8.ofNat (16 * d)).toNat : Int) := by
  have := u8_or_nat 0 (d * 16) (by omega) (by omega)
  simp only [Nat.zero_or] at this
  rw [toNat_ofNat _ (by omega)]
  have e : ((0 : Nat) : Int) = 0 := rfl
  rw [e] at this
  rw [show ((d : Int) * 16) = ((d * 16 : Nat) : Int) by omega, this]
  omega
theorem or_nib (p d : Nat) (hd : d < 16) : (16 * p) ||| d = 16 * p + d := by
  have := Nat.two_pow_add_eq_or_of_lt (i := 4) hd p
  simpa using this.symm
theorem or_odd (p d : Nat) (hp : p < 16) (hd : d < 16) : bits .or .u8 ((UInt8.ofNat (16 * p)).toNat : Int) (d : Int) = ((UInt8.ofNat (16 * p + d)).toNat : Int) := by
  rw [toNat_ofNat _ (by omega), toNat_ofNat _ (by omega), u8_or_nat _ _ (by omega) (by omega), or_nib p d hd]

set_option maxHeartbeats 400000 in
theorem begin_long (s : ByteArray) (w : World) (h : 64 < s.size) :
    Calls Try.prog 11 #[.string s] w fun e w' => e = .returned (.tuple #[.agg (pfA z32 0), .int .i64 3]) ∧ Below w.heap.size w w' := by
  go_enter Try.func11, Try.ntmps11
  go_wp2_with (first
    | (refine wpList_alB rfl 30 rfl _ zero30 ?_; intro w1 hb1 hg1)
    | (refine wpList_stW rfl 30 _ _ rfl w.heap.size rfl (pfA z32 0) rfl 30 (pfA z32 0) hb1 size30 (by rfl) (pfA_one _ _) ?_; intro w2 hb2 hg2))
  refine bodyPost_ret (resB_t rfl _ rfl hb2 _ Try.underlying30 rfl size30) rfl ⟨rfl, ?_⟩
  exact ((Below.refl _ _).grown hg1 (Nat.le_refl _) (by simp)).grown hg2 hg1.size (by simp)

set_option maxHeartbeats 400000 in
theorem begin_short (s : ByteArray) (w : World) (h : s.size ≤ 64) :
    Calls Try.prog 11 #[.string s] w fun e w' => ((okS s.data.toList = true ∧ e = .returned (.tuple #[.agg (pfA (idOf s.data.toList) s.size), .int .i64 0])) ∨ (okS s.data.toList = false ∧ e = .returned (.tuple #[.agg (pfA z32 0), .int .i64 14]))) ∧ Below w.heap.size w w' := by
  go_enter Try.func11, Try.ntmps11
  go_wp2_with (first
    | (refine wpList_alB (o := ⟨some 2, _, _, _, _, _⟩) rfl 30 rfl _ zero30 ?_; intro w1 hb1 hg1)
    | (refine wpList_alB (o := ⟨some 4, _, _, _, _, _⟩) rfl 30 rfl _ zero30 ?_; intro w2 hb2 hg2)
    | (refine wpList_stW rfl 30 _ _ rfl w1.heap.size rfl (pfA z32 s.size) rfl 30 (pfA z32 0) hb2 size30 (by rfl) (pfA_one _ _) ?_; intro w3 hb3 hg3))
  have hB3 : Below w.heap.size w w3 := (((Below.refl _ _).grown hg1 (Nat.le_refl _) (by simp)).grown hg2 hg1.size (by simp)).grown hg3 (Nat.le_trans hg1.size hg2.size) (by have := hg1.size; simp; omega)
  have hlt1 : w.heap.size < w1.heap.size := hb1.lt
  have hr3 : Blk w3 w.heap.size 30 (pfA z32 0) := (hb1.grown hg2 (by simp)).grown hg3 (by simp; omega)
  go_loopw [16] (fun v16 wr => ∃ k : Nat, k ≤ s.size ∧ v16 = .int .i64 k ∧ okS (s.data.toList.take k) = true ∧ Blk wr w.heap.size 30 (pfA z32 0) ∧ Blk wr w1.heap.size 30 (pfA (idOf (s.data.toList.take k)) s.size) ∧ Below w.heap.size w wr) (fun v16 _ => s.size - (intOf v16).toNat)
  case atStart => exact ⟨0, by omega, rfl, rfl, hr3, hb3, hB3⟩
  case round =>
    obtain ⟨k, hk, rfl, hok, hr, hbk, hB⟩ := hrel
    have HK := Lib.hid hok
    clear hok
    by_cases hlt : k < s.size
    · obtain ⟨c, hc⟩ : ∃ c, s.data.toList[k]? = some c := ⟨s.data.toList[k]'(by rw [size_toList]; exact hlt), List.getElem?_eq_getElem _⟩
      have hix := run_index_str Try.underlying9 s k c hc .i64
      have hcl := toNat_le c
      by_cases hd : isD c = true
      · have hw := worth_dN c hd
        have hdl := dN_lt c
        have hok2 : okS (s.data.toList.take (k + 1)) = true := by rw [okS_snoc _ k c hc, HK.out, hd]; rfl
        have HO2 := Lib.hid hok2
        have HW := Lib.hid hw
        have HD := Lib.hid hd
        clear hok2 hw hd
        by_cases hp : k % 2 = 0
        · obtain ⟨_, h1, h2⟩ := idOf_even _ k c hc hp
          have hget := pfA_get (idOf (s.data.toList.take k)) s.size (k / 2) 0 (h2 (by omega))
          have hcell := (hbk.cell (k / 2)).trans hget
          have hfr := hbk.frozen (k / 2)
          have hp' : (k : Int) % 2 = 0 := by omega
          have H1 := Lib.hid h1
          have HC := Lib.hid hc
          clear h1 h2 hget hc hp
          go_wp2_with (go_at_call 33; refine (worth_any _ _ (by omega) (by omega)).mono ?_; rw [HW.out]; rintro e w' ⟨rfl, rfl⟩)
          go_roundw
          case rel => exact ⟨k + 1, by omega, by go_num, HO2.out, hr.far (by simp; omega) _, by rw [or_even _ hdl, H1.out, ← pfA_set _ _ _ _ (by simp; omega)]; exact hbk.set_ _ _, hB.setCell (by simp; omega) _⟩
          case measure => simp [intOf]; omega
        · have hp1 : k % 2 = 1 := by omega
          obtain ⟨h1, h2⟩ := idOf_odd _ k c hc hp1
          have hget := pfA_get (idOf (s.data.toList.take k)) s.size (k / 2) _ (h2 (by omega))
          have hdl2 := dg_lt s.data.toList (k - 1)
          have hcell := (hbk.cell (k / 2)).trans hget
          have hfr := hbk.frozen (k / 2)
          have hp' : (k : Int) % 2 = 1 := by omega
          have H1 := Lib.hid h1
          have HC := Lib.hid hc
          clear h1 h2 hget hc hp hp1
          generalize hold : UInt8.ofNat (16 * dg s.data.toList (k - 1)) = old at hcell
          have HOL := Lib.hid hold
          clear hold
          go_wp2_with (go_at_call 33; refine (worth_any _ _ (by omega) (by omega)).mono ?_; rw [HW.out]; rintro e w' ⟨rfl, rfl⟩)
          go_roundw
          case rel => exact ⟨k + 1, by omega, by go_num, HO2.out, hr.far (by simp; omega) _, by rw [← HOL.out, or_odd _ _ hdl2 hdl, H1.out, ← pfA_set _ _ _ _ (by simp; omega)]; exact hbk.set_ _ _, hB.setCell (by simp; omega) _⟩
          case measure => simp [intOf]; omega
      · have hd' : isD c = false := by simpa using hd
        have hno := okS_not _ k c hc hd'
        have hw := worth_no c hd'
        have HNO := Lib.hid hno
        have HW := Lib.hid hw
        have HC := Lib.hid hc
        clear hno hw hd hd' hc
        go_wp2_with (first
          | (go_at_call 33; refine (worth_any _ _ (by omega) (by omega)).mono ?_; rw [HW.out]; rintro e w' ⟨rfl, rfl⟩)
          | (refine wpList_stW rfl 30 _ _ rfl w.heap.size rfl (pfA z32 0) rfl 30 (pfA z32 0) hr size30 (by rfl) (pfA_one _ _) ?_; intro w4 hb4 hg4))
        refine bodyPost_ret (resB_t rfl _ rfl hb4 _ Try.underlying30 rfl size30) rfl ⟨.inr ⟨HNO.out, rfl⟩, hB.grown hg4 hB.size (by simp)⟩
    · obtain rfl : k = s.size := by omega
      have ht : s.data.toList.take s.size = s.data.toList := List.take_of_length_le (by rw [size_toList]; omega)
      have HT := Lib.hid ht
      have hsz := size_pfA (idOf (s.data.toList.take s.size)) s.size (by simp)
      have HS := Lib.hid hsz
      clear ht hsz
      go_wp2_with (first
        | (refine wpList_load_row rfl 30 _ rfl w1.heap.size rfl 30 _ (0,0) _ hbk Try.underlying30 rfl (by rw [HS.out]; exact size30) ?_)
        | (refine wpList_stW rfl 30 _ _ rfl w.heap.size rfl _ rfl 30 (pfA z32 0) hr (by rw [HS.out]; exact size30) (by rw [HS.out]; rfl) (pfA_one _ _) ?_; intro w4 hb4 hg4))
      refine bodyPost_ret (resB_t rfl _ rfl hb4 _ Try.underlying30 rfl (by rw [HS.out]; exact size30)) rfl ⟨.inl ⟨by rw [← HK.out, HT.out], ?_⟩, hB.grown hg4 hB.size (by simp)⟩
      simp [HT.out]
end Go.Proofs.Ytblbcmkhgjlpcaa
