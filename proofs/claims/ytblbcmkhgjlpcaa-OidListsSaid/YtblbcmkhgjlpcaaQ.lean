/-
  Short of the program.
-/
import Derived.Test.YtblbcmkhgjlpcaaP
namespace Go.Proofs.Ytblbcmkhgjlpcaa
open Go.RowKit Zk Zx
set_option linter.unusedVariables false
set_option linter.unusedSimpArgs false

theorem pfindNo (A : Option Addr) (n c : Nat) (l : List Id) (x : Id) (w0 : World) (hl : Rs w0 32 A n c (l.flatMap idf)) (hr : ris l = false) : Calls Try.prog 28 #[.slice A n c, .agg (bA x.l)] w0 fun e w' => ∃ u, e = .returned u ∧ Like w0 w' ∧ u = .tuple #[.int .i64 0, .bool false] :=
  (pfind A n c l x w0 hl).mono fun e w' ⟨u, h1, h2, h3⟩ => ⟨u, h1, h2, by rcases h3 with ⟨_, h4⟩ | ⟨h4, _⟩; exact h4; rw [hr] at h4; cases h4⟩
theorem pfindYes (A : Option Addr) (n c : Nat) (l : List Id) (x : Id) (k : Nat) (w0 : World) (hl : Rs w0 32 A n c (l.flatMap idf)) (hr : ris l = true) (hk : posOk l x k) : Calls Try.prog 28 #[.slice A n c, .agg (bA x.l)] w0 fun e w' => ∃ u, e = .returned u ∧ Like w0 w' ∧ u = .tuple #[.int .i64 (k : Int), .bool (decide (l[k]? = some x))] :=
  (pfind A n c l x w0 hl).mono fun e w' ⟨u, h1, h2, h3⟩ => ⟨u, h1, h2, by rcases h3 with ⟨h4, _⟩ | ⟨_, m, h4, h5⟩; (rw [hr] at h4; cases h4); (rw [hk.uniq h4]; exact h5)⟩
theorem rfindNo (A : Option Addr) (n c : Nat) (l : List Id) (x : Id) (w0 : World) (hl : Rs w0 32 A n c (l.flatMap idf)) (hr : ris l = false) : Calls Try.prog 29 #[.slice A n c, .agg (bA x.l)] w0 fun e w' => ∃ u, e = .returned u ∧ Like w0 w' ∧ u = .tuple #[.int .i64 0, .bool false] :=
  (rfind A n c l x w0 hl).mono fun e w' ⟨u, h1, h2, h3⟩ => ⟨u, h1, h2, by rcases h3 with ⟨_, h4⟩ | ⟨h4, _⟩; exact h4; rw [hr] at h4; cases h4⟩
theorem rfindYes (A : Option Addr) (n c : Nat) (l : List Id) (x : Id) (k : Nat) (w0 : World) (hl : Rs w0 32 A n c (l.flatMap idf)) (hr : ris l = true) (hk : posOk l x k) : Calls Try.prog 29 #[.slice A n c, .agg (bA x.l)] w0 fun e w' => ∃ u, e = .returned u ∧ Like w0 w' ∧ u = .tuple #[.int .i64 (k : Int), .bool (decide (l[k]? = some x))] :=
  (rfind A n c l x w0 hl).mono fun e w' ⟨u, h1, h2, h3⟩ => ⟨u, h1, h2, by rcases h3 with ⟨h4, _⟩ | ⟨_, m, h4, h5⟩; (rw [hr] at h4; cases h4); (rw [hk.uniq h4]; exact h5)⟩
theorem pos_ex {l : List Id} (hr : ris l = true) (x : Id) : ∃ k, posOk l x k := by
  obtain ⟨t, h1, h2, h3, h4⟩ := run_ex l (fun y => lt y x) _ 0 rfl (Nat.zero_le _)
  exact ⟨t, posOk.of hr h2 (fun i y hi hy => h3 i y (Nat.zero_le _) hi hy) h4⟩
def agB (n : Nat) (y x : Id) : Bool := (List.range n).all fun j => decide (nib x j = nib y j)
theorem agB_iff (n : Nat) (y x : Id) : agB n y x = true ↔ ∀ j, j < n → nib x j = nib y j := by
  unfold agB
  rw [List.all_eq_true]
  exact ⟨fun h j hj => of_decide_eq_true (h j (List.mem_range.2 hj)), fun h j hj => decide_eq_true (h j (List.mem_range.1 hj))⟩
theorem agB_succ (n : Nat) (y x : Id) : agB (n + 1) y x = (agB n y x && decide (nib x n = nib y n)) := by
  unfold agB
  rw [List.range_succ, List.all_append]
  simp
theorem agB_mono {n m : Nat} {y x : Id} (h : n ≤ m) (h2 : agB n y x = false) : agB m y x = false := by
  cases h3 : agB m y x
  · rfl
  · rw [(agB_iff n y x).2 fun j hj => (agB_iff m y x).1 h3 j (by omega)] at h2
    cases h2
def alB (l : List Id) (x : Id) (n : Nat) : Bool := l.all fun y => !(decide (y.l ≠ x.l) && agB n y x)
theorem alB_iff (l : List Id) (x : Id) (n : Nat) : alB l x n = true ↔ ∀ y ∈ l, y ≠ x → agB n y x = false := by
  unfold alB
  rw [List.all_eq_true]
  constructor
  · intro h y hy hne
    have := h y hy
    rw [decide_eq_true (p := y.l ≠ x.l) (fun e => hne (Id.ext e)), Bool.true_and] at this
    simpa using this
  · intro h y hy
    by_cases e : y = x
    · subst e; simp
    · rw [h y hy e]; simp
theorem alB_mono {l : List Id} {x : Id} {n m : Nat} (h : n ≤ m) (h2 : alB l x n = true) : alB l x m = true :=
  (alB_iff l x m).2 fun y hy hne => agB_mono h ((alB_iff l x n).1 h2 y hy hne)
theorem alB_64 (l : List Id) (x : Id) : alB l x 64 = true := (alB_iff l x 64).2 fun y hy hne => by
  cases h : agB 64 y x
  · rfl
  · exact (hne (Id.ext (nib_ext _ _ y.h x.h fun k hk => ((agB_iff 64 y x).1 h k hk).symm))).elim
def n0F (least : Int) : Int := min (max least 0) 64
/-- So many digits tell x from all others. -/
def tells (l : List Id) (x : Id) (least : Int) (N : Nat) : Prop := n0F least ≤ N ∧ N ≤ 64 ∧ alB l x N = true ∧ ((N : Int) = n0F least ∨ alB l x (N - 1) = false)
theorem tells.uniq {l : List Id} {x : Id} {least : Int} {N M : Nat} (h1 : tells l x least N) (h2 : tells l x least M) : N = M := by
  obtain ⟨a1, a2, a3, a4⟩ := h1
  obtain ⟨b1, b2, b3, b4⟩ := h2
  rcases Nat.lt_trichotomy N M with h | h | h
  · rcases b4 with b4 | b4
    · omega
    · rw [alB_mono (by omega) a3] at b4; cases b4
  · exact h
  · rcases a4 with a4 | a4
    · omega
    · rw [alB_mono (by omega) b3] at a4; cases a4
def shortOk (l : List Id) (x : Id) (least : Int) (u : Value) : Prop := (ris l = false ∧ u = .int .i64 0) ∨ (ris l = true ∧ ∃ k, posOk l x k ∧ ((l[k]? ≠ some x ∧ u = .int .i64 0) ∨ (l[k]? = some x ∧ ∃ N : Nat, tells l x least N ∧ u = .int .i64 (N : Int))))
theorem shortOk.uniq {l : List Id} {x : Id} {least : Int} {u v : Value} (h1 : shortOk l x least u) (h2 : shortOk l x least v) : u = v := by
  rcases h1 with ⟨a, rfl⟩ | ⟨a, k, hk, h1⟩
  · rcases h2 with ⟨b, rfl⟩ | ⟨b, _⟩
    · rfl
    · rw [a] at b; cases b
  · rcases h2 with ⟨b, _⟩ | ⟨_, m, hm, h2⟩
    · rw [a] at b; cases b
    · have e := hk.uniq hm
      subst e
      rcases h1 with ⟨c, rfl⟩ | ⟨c, N, hN, rfl⟩
      · rcases h2 with ⟨d, rfl⟩ | ⟨d, _⟩
        · rfl
        · exact (c d).elim
      · rcases h2 with ⟨d, _⟩ | ⟨_, M, hM, rfl⟩
        · exact (d c).elim
        · rw [hN.uniq hM]
/-- The neighbours decide. -/
theorem tells_of {l : List Id} (hr : ris l = true) {x : Id} {k : Nat} (hx : l[k]? = some x) {least : Int} {N : Nat} (h0 : n0F least ≤ N) (h64 : N ≤ 64)
    (hp : ∀ y m, l[k - 1]? = some y → 0 < k → AL y x m → m + 1 ≤ N) (hq : ∀ y m, l[k + 1]? = some y → AL y x m → m + 1 ≤ N) (hex : 0 < k → ∃ y m, l[k - 1]? = some y ∧ AL y x m) (hex2 : k + 1 < l.length → ∃ y m, l[k + 1]? = some y ∧ AL y x m)
    (hmin : (N : Int) = n0F least ∨ (∃ y m, y ∈ l ∧ y ≠ x ∧ AL y x m ∧ N = m + 1)) : tells l x least N := by
  refine ⟨h0, h64, (alB_iff l x N).2 fun y hy hne => ?_, hmin.imp id fun ⟨y, m, h1, h2, h3, h4⟩ => ?_⟩
  · cases hag : agB N y x
    · rfl
    · exfalso
      have hag' := (agB_iff N y x).1 hag
      obtain ⟨i, hi, hyi⟩ := List.getElem_of_mem hy
      have hyi' : l[i]? = some y := by rw [List.getElem?_eq_getElem hi, hyi]
      rcases Nat.lt_trichotomy i k with h | h | h
      · obtain ⟨z, m, hz, hzm⟩ := hex (by omega)
        have hm := hp z m hz (by omega) hzm
        have h1 : lt z y = false := by
          rcases Nat.lt_or_ge i (k - 1) with h5 | h5
          · have h6 := ris_at hr hyi' hz h5
            cases h7 : lt z y
            · rfl
            · have := lt_trans _ _ _ h6 h7; rw [lt_irr] at this; cases this
          · have e : i = k - 1 := by omega
            subst e; rw [hz] at hyi'; cases hyi'; exact lt_irr _
        have h2 : lt x z = false := by
          have h6 := ris_at hr hz hx (by omega)
          cases h7 : lt x z
          · rfl
          · have := lt_trans _ _ _ h6 h7; rw [lt_irr] at this; cases this
        have h3 := between y z x N h64 h1 h2 (fun j hj => (hag' j hj).symm)
        have h4 := hzm.2.2 (by omega)
        exact h4 (by rw [← h3 m (by omega)]; exact (hag' m (by omega)).symm)
      · subst h; rw [hx] at hyi'; cases hyi'; exact hne rfl
      · obtain ⟨z, m, hz, hzm⟩ := hex2 (by omega)
        have hm := hq z m hz hzm
        have h1 : lt z x = false := by
          have h6 := ris_at hr hx hz (by omega)
          cases h7 : lt z x
          · rfl
          · have := lt_trans _ _ _ h6 h7; rw [lt_irr] at this; cases this
        have h2 : lt y z = false := by
          rcases Nat.lt_or_ge (k + 1) i with h5 | h5
          · have h6 := ris_at hr hz hyi' h5
            cases h7 : lt y z
            · rfl
            · have := lt_trans _ _ _ h6 h7; rw [lt_irr] at this; cases this
          · have e : i = k + 1 := by omega
            subst e; rw [hz] at hyi'; cases hyi'; exact lt_irr _
        have h3 := between x z y N h64 h1 h2 hag'
        have h4 := hzm.2.2 (by omega)
        exact h4 (h3 m (by omega)).symm
  · cases h5 : alB l x (N - 1)
    · rfl
    · have := (alB_iff l x (N - 1)).1 h5 y h1 h2
      rw [(agB_iff (N - 1) y x).2 fun j hj => (h3.2.1 j (by omega)).symm] at this
      cases this
theorem AL.uniq {a b : Id} {m n : Nat} (h1 : AL a b m) (h2 : AL a b n) : m = n := by
  have := h1.1; have := h2.1
  rcases Nat.lt_trichotomy m n with h | h | h
  · exact (h1.2.2 (by omega) (h2.2.1 m h)).elim
  · exact h
  · exact (h2.2.2 (by omega) (h1.2.1 n h)).elim
theorem AL.lt {a b : Id} {m : Nat} (h : AL a b m) (hne : a ≠ b) : m < 64 := by
  rcases Nat.lt_or_ge m 64 with h1 | h1
  · exact h1
  · exact (hne (Id.ext (nib_ext _ _ a.h b.h fun k hk => h.2.1 k (by omega)))).elim
theorem ris_ne {l : List Id} (hr : ris l = true) {i j : Nat} {x y : Id} (hi : l[i]? = some x) (hj : l[j]? = some y) (hij : i ≠ j) : x ≠ y := fun e => by
  subst e
  rcases Nat.lt_or_gt_of_ne hij with h | h
  · have := ris_at hr hi hj h; rw [lt_irr] at this; cases this
  · have := ris_at hr hj hi h; rw [lt_irr] at this; cases this


set_option maxRecDepth 100000 in
theorem pshortN (A : Option Addr) (n c : Nat) (l : List Id) (x : Id) (least : Int) (w0 : World) (hl : Rs w0 32 A n c (l.flatMap idf)) (hr : ris l = false) :
    Calls Try.prog 25 #[.slice A n c, .agg (bA x.l), .int .i64 least] w0 fun e w' => ∃ u, e = .returned u ∧ Like w0 w' ∧ shortOk l x least u := by
  refine enter1 (env := [(0, .slice A n c), (1, .agg (bA x.l)), (2, .int .i64 least)]) [.slice A n c, .agg (bA x.l), .int .i64 least] Try.func25 rfl Try.ntmps25 rfl rfl ?_
  have hn := ids_n hl; have hcap := hl.cap; have hmax := hl.max; have S0 := St.start w0 noM
  refine T_seq fun K1 hK1 => ?_
  refine T_region ?_
  refine L_o (o_box rfl S0 rfl fun b1 w1 hb1 S1 => ?_)
  refine L_y (y_assign rfl) rfl ?_
  refine L_nil ?_
  refine hK1 _ _ ?_
  refine T_seq fun K2 hK2 => ?_
  refine T_region ?_
  refine L_y (y_move rfl) rfl ?_
  refine L_y (y_ldW Try.underlying23 rfl sz23 rfl (S1.blk 0 rfl) (whole32 x)) rfl ?_
  refine L_o (o_call Try.func28 rfl rfl (pfindNo A n c l x w1 (S1.rd hl) hr) rfl rfl ?_)
  rintro e2 w2 ⟨v2, rfl, l2, rfl⟩
  refine ⟨_, rfl, ?_⟩
  have S2 := S1.like l2
  refine L_y (y_move rfl) rfl ?_
  refine L_y (y_extract rfl rfl) rfl ?_
  refine L_y (y_extract rfl rfl) rfl ?_
  refine L_y (y_assign rfl) rfl ?_
  refine L_y (y_assign rfl) rfl ?_
  refine L_nil ?_
  refine hK2 _ _ ?_
  refine T_seq fun K3 hK3 => ?_
  refine T_seq fun K4 hK4 => ?_
  refine T_region ?_
  refine L_y (y_move rfl) rfl ?_
  refine L_y ((by first | exact y_notD rfl | exact y_not rfl)) rfl ?_
  refine L_nil ?_
  refine hK4 _ _ ?_
  refine T_true rfl ?_
  refine T_seq fun K5 hK5 => ?_
  refine T_region ?_
  refine L_y (y_assign rfl) rfl ?_
  refine L_nil ?_
  refine hK5 _ _ ?_
  refine T_ret ?_
  repeat (first | with_reducible refine up_then ?_ | with_reducible refine up_in ?_)
  refine ret1 rfl rfl ?_
  exact ⟨_, rfl, S2.like0, .inl ⟨hr, rfl⟩⟩


set_option maxRecDepth 100000 in
theorem pshortY (A : Option Addr) (n c : Nat) (l : List Id) (x : Id) (least : Int) (k : Nat) (w0 : World) (hl : Rs w0 32 A n c (l.flatMap idf)) (hr : ris l = true) (hk : posOk l x k) :
    Calls Try.prog 25 #[.slice A n c, .agg (bA x.l), .int .i64 least] w0 fun e w' => ∃ u, e = .returned u ∧ Like w0 w' ∧ shortOk l x least u := by
  refine enter1 (env := [(0, .slice A n c), (1, .agg (bA x.l)), (2, .int .i64 least)]) [.slice A n c, .agg (bA x.l), .int .i64 least] Try.func25 rfl Try.ntmps25 rfl rfl ?_
  have hkn := hk.1; have hn := ids_n hl; have hcap := hl.cap; have hmax := hl.max; have S0 := St.start w0 noM
  refine T_seq fun K1 hK1 => ?_
  refine T_region ?_
  refine L_o (o_box rfl S0 rfl fun b1 w1 hb1 S1 => ?_)
  refine L_y (y_assign rfl) rfl ?_
  refine L_nil ?_
  refine hK1 _ _ ?_
  refine T_seq fun K2 hK2 => ?_
  refine T_region ?_
  refine L_y (y_move rfl) rfl ?_
  refine L_y (y_ldW Try.underlying23 rfl sz23 rfl (S1.blk 0 rfl) (whole32 x)) rfl ?_
  refine L_o (o_call Try.func28 rfl rfl (pfindYes A n c l x k w1 (S1.rd hl) hr hk) rfl rfl ?_)
  rintro e2 w2 ⟨v2, rfl, l2, rfl⟩
  refine ⟨_, rfl, ?_⟩
  have S2 := S1.like l2
  refine L_y (y_move rfl) rfl ?_
  refine L_y (y_extract rfl rfl) rfl ?_
  refine L_y (y_extract rfl rfl) rfl ?_
  refine L_y (y_assign rfl) rfl ?_
  refine L_y (y_assign rfl) rfl ?_
  refine L_nil ?_
  refine hK2 _ _ ?_
  refine T_seq fun K3 hK3 => ?_
  refine T_seq fun K4 hK4 => ?_
  refine T_region ?_
  refine L_y (y_move rfl) rfl ?_
  refine L_y ((by first | exact y_notD rfl | exact y_not rfl)) rfl ?_
  refine L_nil ?_
  refine hK4 _ _ ?_
  refine T_condB rfl (fun h17 => ?_) (fun h17 => ?_)
  ·
    refine T_seq fun K5 hK5 => ?_
    refine T_region ?_
    refine L_y (y_assign rfl) rfl ?_
    refine L_nil ?_
    refine hK5 _ _ ?_
    refine T_ret ?_
    repeat (first | with_reducible refine up_then ?_ | with_reducible refine up_in ?_)
    refine ret1 rfl rfl ?_
    exact ⟨_, rfl, S2.like0, .inr ⟨hr, k, hk, .inl ⟨by simpa using h17, rfl⟩⟩⟩
  ·
    have hxk : l[k]? = some x := by simpa using h17
    have hkl := (List.getElem?_eq_some_iff.1 hxk).1
    refine T_skip ?_
    refine hK3 _ _ ?_
    refine T_seq fun K6 hK6 => ?_
    refine T_region ?_
    refine L_y (y_move rfl) rfl ?_
    refine L_y (y_max rfl rfl) rfl ?_
    refine L_y (y_min rfl rfl) rfl ?_
    refine L_y (y_assign rfl) rfl ?_
    refine L_nil ?_
    refine hK6 _ _ ?_
    refine T_seq fun K7 hK7 => ?_
    refine T_seq fun K8 hK8 => ?_
    refine T_region ?_
    refine L_y (y_move rfl) rfl ?_
    refine L_y (y_gtr rfl rfl) rfl ?_
    refine L_nil ?_
    refine hK8 _ _ ?_
    refine T_cond rfl (fun h22 => ?_) (fun h22 => ?_)
    ·
      obtain ⟨y1, hy1⟩ : ∃ y1, l[k - 1]? = some y1 := ⟨_, List.getElem?_eq_getElem (by omega)⟩
      refine T_drawnL [(0, true), (1, true), (2, true), (3, true), (4, true), (5, true), (6, true), (7, false), (8, true), (9, true), (10, true)] hmix (by kernel_rfl) fun w3 l3 => ?_
      have S3 := S2.like l3
      refine DL_y rfl (y_move rfl) rfl ?_
      refine DL_y rfl (y_move rfl) rfl ?_
      refine DL_y rfl (y_move rfl) rfl ?_
      refine DL_y rfl (y_sub rfl rfl (i64w (by omega))) rfl ?_
      refine DL_y rfl (y_idx Try.underlying44 sz23 rfl rfl (S3.rd hl) (Nt.mk (by omega) : Nt _ (k - 1)) (by omega)) rfl ?_
      refine DL_y rfl (y_ldp (f := idf) idf_len Try.underlying23 rfl sz23 rfl (S3.rd hl) (by omega) hy1) rfl ?_
      refine DL_y rfl (y_ldW Try.underlying23 rfl sz23 rfl (S3.blk 0 rfl) (whole32 x)) rfl ?_
      refine DL_o rfl (o_call Try.func40 rfl rfl (palike y1 x w3) rfl rfl ?_)
      rintro e4 w4 ⟨v4, rfl, l4, m1, rfl, hm1⟩
      refine ⟨_, rfl, l4, ?_⟩
      have S4 := S3.like l4
      have hm1b := hm1.1
      have q4 := l4
      refine DL_y rfl (y_add rfl rfl (i64w (by omega))) rfl ?_
      refine DL_y rfl (y_max rfl rfl) rfl ?_
      refine DL_y rfl (y_assign rfl) rfl ?_
      refine DL_nil ?_
      refine hK7 _ _ ?_
      refine T_seq fun K9 hK9 => ?_
      refine T_seq fun K10 hK10 => ?_
      refine T_region ?_
      refine L_y (y_move rfl) rfl ?_
      refine L_y (y_add rfl rfl (i64w (by omega))) rfl ?_
      refine L_y (y_move rfl) rfl ?_
      refine L_y (y_len Try.underlying44 rfl) rfl ?_
      refine L_y (y_lss rfl rfl) rfl ?_
      refine L_nil ?_
      refine hK10 _ _ ?_
      refine T_cond rfl (fun h37 => ?_) (fun h37 => ?_)
      ·
        obtain ⟨y2, hy2⟩ : ∃ y2, l[k + 1]? = some y2 := ⟨_, List.getElem?_eq_getElem (by omega)⟩
        refine T_drawnL [(0, true), (1, true), (2, true), (3, true), (4, true), (5, true), (6, true), (7, false), (8, true), (9, true), (10, true)] hmix (by kernel_rfl) fun w5 l5 => ?_
        have S5 := S4.like l5
        refine DL_y rfl (y_move rfl) rfl ?_
        refine DL_y rfl (y_move rfl) rfl ?_
        refine DL_y rfl (y_move rfl) rfl ?_
        refine DL_y rfl (y_add rfl rfl (i64w (by omega))) rfl ?_
        refine DL_y rfl (y_idx Try.underlying44 sz23 rfl rfl (S5.rd hl) (Nt.mk (by omega) : Nt _ (k + 1)) (by omega)) rfl ?_
        refine DL_y rfl (y_ldp (f := idf) idf_len Try.underlying23 rfl sz23 rfl (S5.rd hl) (by omega) hy2) rfl ?_
        refine DL_y rfl (y_ldW Try.underlying23 rfl sz23 rfl (S5.blk 0 rfl) (whole32 x)) rfl ?_
        refine DL_o rfl (o_call Try.func40 rfl rfl (palike y2 x w5) rfl rfl ?_)
        rintro e6 w6 ⟨v6, rfl, l6, m2, rfl, hm2⟩
        refine ⟨_, rfl, l6, ?_⟩
        have S6 := S5.like l6
        have hm2b := hm2.1
        have q6 := l6
        refine DL_y rfl (y_add rfl rfl (i64w (by omega))) rfl ?_
        refine DL_y rfl (y_max rfl rfl) rfl ?_
        refine DL_y rfl (y_assign rfl) rfl ?_
        refine DL_nil ?_
        refine hK9 _ _ ?_
        refine T_seq fun K11 hK11 => ?_
        refine T_region ?_
        refine L_y (y_move rfl) rfl ?_
        refine L_y (y_assign rfl) rfl ?_
        refine L_nil ?_
        refine hK11 _ _ ?_
        refine T_ret ?_
        repeat (first | with_reducible refine up_then ?_ | with_reducible refine up_in ?_)
        refine ret1 rfl rfl ?_
        have hx : l[k]? = some x := by simpa using h17
        have hn0 : 0 ≤ n0F least ∧ n0F least ≤ 64 := by unfold n0F; omega
        have hd1 := hm1.lt (ris_ne hr hy1 hx (by omega))
        have hd2 := hm2.lt (ris_ne hr hy2 hx (by omega))
        have ht := tells_of hr hx (least := least) (N := max (max ((n0F least).toNat) (m1 + 1)) (m2 + 1)) (by omega) (by omega) (fun q m hq h0 hm => by (rw [hy1] at hq; cases hq; (have := hm.uniq hm1); omega)) (fun q m hq hm => by (rw [hy2] at hq; cases hq; (have := hm.uniq hm2); omega)) (fun _ => ⟨y1, m1, hy1, hm1⟩) (fun _ => ⟨y2, m2, hy2, hm2⟩) (by by_cases q1 : m1 + 1 ≤ (n0F least).toNat; by_cases q2 : m2 + 1 ≤ (n0F least).toNat; exact .inl (by omega); exact .inr ⟨y2, m2, List.mem_of_getElem? hy2, ris_ne hr hy2 hx (by omega), hm2, by omega⟩; by_cases q2 : m2 ≤ m1; exact .inr ⟨y1, m1, List.mem_of_getElem? hy1, ris_ne hr hy1 hx (by omega), hm1, by omega⟩; exact .inr ⟨y2, m2, List.mem_of_getElem? hy2, ris_ne hr hy2 hx (by omega), hm2, by omega⟩)
        exact ⟨_, rfl, S6.like0, .inr ⟨hr, k, hk, .inr ⟨hx, _, ht, congrArg (Value.int _) (by unfold n0F; omega)⟩⟩⟩
      ·
        refine T_skip ?_
        refine hK9 _ _ ?_
        refine T_seq fun K12 hK12 => ?_
        refine T_region ?_
        refine L_y (y_move rfl) rfl ?_
        refine L_y (y_assign rfl) rfl ?_
        refine L_nil ?_
        refine hK12 _ _ ?_
        refine T_ret ?_
        repeat (first | with_reducible refine up_then ?_ | with_reducible refine up_in ?_)
        refine ret1 rfl rfl ?_
        have hx : l[k]? = some x := by simpa using h17
        have hn0 : 0 ≤ n0F least ∧ n0F least ≤ 64 := by unfold n0F; omega
        have hd1 := hm1.lt (ris_ne hr hy1 hx (by omega))
        have ht := tells_of hr hx (least := least) (N := max ((n0F least).toNat) (m1 + 1)) (by omega) (by omega) (fun q m hq h0 hm => by (rw [hy1] at hq; cases hq; (have := hm.uniq hm1); omega)) (fun q m hq hm => by have := (List.getElem?_eq_some_iff.1 hq).1; omega) (fun _ => ⟨y1, m1, hy1, hm1⟩) (fun h => by omega) (by by_cases q1 : m1 + 1 ≤ (n0F least).toNat; exact .inl (by omega); exact .inr ⟨y1, m1, List.mem_of_getElem? hy1, ris_ne hr hy1 hx (by omega), hm1, by omega⟩)
        exact ⟨_, rfl, S4.like0, .inr ⟨hr, k, hk, .inr ⟨hx, _, ht, congrArg (Value.int _) (by unfold n0F; omega)⟩⟩⟩
    ·
      refine T_skip ?_
      refine hK7 _ _ ?_
      refine T_seq fun K13 hK13 => ?_
      refine T_seq fun K14 hK14 => ?_
      refine T_region ?_
      refine L_y (y_move rfl) rfl ?_
      refine L_y (y_add rfl rfl (i64w (by omega))) rfl ?_
      refine L_y (y_move rfl) rfl ?_
      refine L_y (y_len Try.underlying44 rfl) rfl ?_
      refine L_y (y_lss rfl rfl) rfl ?_
      refine L_nil ?_
      refine hK14 _ _ ?_
      refine T_cond rfl (fun h37 => ?_) (fun h37 => ?_)
      ·
        obtain ⟨y2, hy2⟩ : ∃ y2, l[k + 1]? = some y2 := ⟨_, List.getElem?_eq_getElem (by omega)⟩
        refine T_drawnL [(0, true), (1, true), (2, true), (3, true), (4, true), (5, true), (6, true), (7, false), (8, true), (9, true), (10, true)] hmix (by kernel_rfl) fun w7 l7 => ?_
        have S7 := S2.like l7
        refine DL_y rfl (y_move rfl) rfl ?_
        refine DL_y rfl (y_move rfl) rfl ?_
        refine DL_y rfl (y_move rfl) rfl ?_
        refine DL_y rfl (y_add rfl rfl (i64w (by omega))) rfl ?_
        refine DL_y rfl (y_idx Try.underlying44 sz23 rfl rfl (S7.rd hl) (Nt.mk (by omega) : Nt _ (k + 1)) (by omega)) rfl ?_
        refine DL_y rfl (y_ldp (f := idf) idf_len Try.underlying23 rfl sz23 rfl (S7.rd hl) (by omega) hy2) rfl ?_
        refine DL_y rfl (y_ldW Try.underlying23 rfl sz23 rfl (S7.blk 0 rfl) (whole32 x)) rfl ?_
        refine DL_o rfl (o_call Try.func40 rfl rfl (palike y2 x w7) rfl rfl ?_)
        rintro e8 w8 ⟨v8, rfl, l8, m2, rfl, hm2⟩
        refine ⟨_, rfl, l8, ?_⟩
        have S8 := S7.like l8
        have hm2b := hm2.1
        have q8 := l8
        refine DL_y rfl (y_add rfl rfl (i64w (by omega))) rfl ?_
        refine DL_y rfl (y_max rfl rfl) rfl ?_
        refine DL_y rfl (y_assign rfl) rfl ?_
        refine DL_nil ?_
        refine hK13 _ _ ?_
        refine T_seq fun K15 hK15 => ?_
        refine T_region ?_
        refine L_y (y_move rfl) rfl ?_
        refine L_y (y_assign rfl) rfl ?_
        refine L_nil ?_
        refine hK15 _ _ ?_
        refine T_ret ?_
        repeat (first | with_reducible refine up_then ?_ | with_reducible refine up_in ?_)
        refine ret1 rfl rfl ?_
        have hx : l[k]? = some x := by simpa using h17
        have hn0 : 0 ≤ n0F least ∧ n0F least ≤ 64 := by unfold n0F; omega
        have hd2 := hm2.lt (ris_ne hr hy2 hx (by omega))
        have ht := tells_of hr hx (least := least) (N := max ((n0F least).toNat) (m2 + 1)) (by omega) (by omega) (fun q m hq h0 hm => by omega) (fun q m hq hm => by (rw [hy2] at hq; cases hq; (have := hm.uniq hm2); omega)) (fun h => by omega) (fun _ => ⟨y2, m2, hy2, hm2⟩) (by by_cases q1 : m2 + 1 ≤ (n0F least).toNat; exact .inl (by omega); exact .inr ⟨y2, m2, List.mem_of_getElem? hy2, ris_ne hr hy2 hx (by omega), hm2, by omega⟩)
        exact ⟨_, rfl, S8.like0, .inr ⟨hr, k, hk, .inr ⟨hx, _, ht, congrArg (Value.int _) (by unfold n0F; omega)⟩⟩⟩
      ·
        refine T_skip ?_
        refine hK13 _ _ ?_
        refine T_seq fun K16 hK16 => ?_
        refine T_region ?_
        refine L_y (y_move rfl) rfl ?_
        refine L_y (y_assign rfl) rfl ?_
        refine L_nil ?_
        refine hK16 _ _ ?_
        refine T_ret ?_
        repeat (first | with_reducible refine up_then ?_ | with_reducible refine up_in ?_)
        refine ret1 rfl rfl ?_
        have hx : l[k]? = some x := by simpa using h17
        have hn0 : 0 ≤ n0F least ∧ n0F least ≤ 64 := by unfold n0F; omega
        have ht := tells_of hr hx (least := least) (N := (n0F least).toNat) (by omega) (by omega) (fun q m hq h0 hm => by omega) (fun q m hq hm => by have := (List.getElem?_eq_some_iff.1 hq).1; omega) (fun h => by omega) (fun h => by omega) (.inl (by omega))
        exact ⟨_, rfl, S2.like0, .inr ⟨hr, k, hk, .inr ⟨hx, _, ht, congrArg (Value.int _) (by unfold n0F; omega)⟩⟩⟩
end Go.Proofs.Ytblbcmkhgjlpcaa
