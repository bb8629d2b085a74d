/-
  The law OidBeside.
-/
import Derived.Test.YtblbcmkhgjlpcaaS
namespace Go.Proofs.Ytblbcmkhgjlpcaa
open Go.RowKit Zk Zx
set_option linter.unusedVariables false
set_option linter.unusedSimpArgs false

theorem y_bneq {P : Program} {S : World → Prop} {env : Env} {dst : Option Tmp} {ty : TypeId} {pos : String} {after : Array Edge} {g : Option (Nat × Bool)} {x y : Operand} {t u : TypeId} {a b : Bool} (ht : P.underlying t = some .bool) (hx : ev env x = some (.bool a)) (hy : ev env y = some (.bool b)) : Y P S env ⟨dst, .binOp .neq t x y u, ty, pos, after, g⟩ (.bool (!(a == b))) := fun N c w ha _ => by
  simp only [execOp, ha.eval hx, ha.eval hy, eqGuard, ne_eq, not_true_eq_false, Bool.not_true, Bool.false_eq_true, if_false, Sem.run_bind, Sem.run_pure, Result.andThen_ok, run_neq_bool w t a b ht]
theorem fit_no {z : Id} {nn : Int} (h : rightB z.l nn = false) (x : Id) : fit z nn x = false := by
  unfold fit fitsB
  rw [h]
  rfl
/-- Where those stand that begin so. -/
theorem range_fit {l : List Id} {z : Id} {nn : Int} {u : Value} (hr : ris l = true) (h : rangeOk l z nn u) : ∃ a b : Nat, u = .tuple #[.int .i64 (a : Int), .int .i64 (b : Int)] ∧ a ≤ b ∧ b ≤ l.length ∧ ∀ i y, l[i]? = some y → fit z nn y = decide (a ≤ i ∧ i < b) := by
  rcases h with ⟨h1, h2⟩ | ⟨_, _, f, t, _, h3, h4, h5, h6⟩
  · rcases h1 with h1 | h1
    · exact ⟨0, 0, h2, Nat.le_refl _, Nat.zero_le _, fun i y hy => by rw [fit_no h1]; exact (decide_eq_false (by omega)).symm⟩
    · rw [hr] at h1; cases h1
  · exact ⟨f, t, h6, h3, h4, h5⟩
theorem prangeF (A : Option Addr) (n c : Nat) (l : List Id) (z : Id) (nn : Int) (w0 : World) (hl : Rs w0 32 A n c (l.flatMap idf)) (hr : ris l = true) : Calls Try.prog 22 #[.slice A n c, .agg (pfA z.l nn)] w0 fun e w' => ∃ u, e = .returned u ∧ Like w0 w' ∧ ∃ a b : Nat, u = .tuple #[.int .i64 (a : Int), .int .i64 (b : Int)] ∧ a ≤ b ∧ b ≤ l.length ∧ ∀ i y, l[i]? = some y → fit z nn y = decide (a ≤ i ∧ i < b) :=
  (prange A n c l z nn w0 hl).mono fun e w' ⟨u, h1, h2, h3⟩ => ⟨u, h1, h2, range_fit hr h3⟩
theorem pos_at {l : List Id} (hr : ris l = true) {k : Nat} {x : Id} (hx : l[k]? = some x) : posOk l x k :=
  posOk.of hr (Nat.le_of_lt (List.getElem?_eq_some_iff.1 hx).1) (fun i y hi hy => ris_at hr hy hx hi) fun y hy => by rw [hx] at hy; cases hy; exact lt_irr _
theorem pshortAt (A : Option Addr) (n c : Nat) (l : List Id) (x : Id) (least : Int) (k : Nat) (w0 : World) (hl : Rs w0 32 A n c (l.flatMap idf)) (hr : ris l = true) (hx : l[k]? = some x) : Calls Try.prog 25 #[.slice A n c, .agg (bA x.l), .int .i64 least] w0 fun e w' => ∃ u, e = .returned u ∧ Like w0 w' ∧ ∃ N : Nat, u = .int .i64 (N : Int) ∧ tells l x least N :=
  (pshortY A n c l x least k w0 hl hr (pos_at hr hx)).mono fun e w' ⟨u, h1, h2, h3⟩ => ⟨u, h1, h2, by
    rcases h3 with ⟨h4, _⟩ | ⟨_, m, hm, h5⟩
    · rw [hr] at h4; cases h4
    · have e := (pos_at hr hx).uniq hm
      subst e
      rcases h5 with ⟨h6, _⟩ | ⟨_, N, h7, h8⟩
      · exact (h6 hx).elim
      · exact ⟨N, h8, h7⟩⟩
theorem nib_idOf (s : List UInt8) (k : Nat) (h : k < 64) : nibN (idOf s) k = dg s k := by
  have h1 := dg_lt s (2 * (k / 2))
  have h2 := dg_lt s (2 * (k / 2) + 1)
  have hg : (idOf s).getD (k / 2) 0 = UInt8.ofNat (16 * dg s (2 * (k / 2)) + dg s (2 * (k / 2) + 1)) := by
    rw [List.getD_eq_getElem?_getD, idOf_get s (k / 2) (by omega)]
    rfl
  unfold nibN
  rw [hg, toNat_ofNat _ (by omega)]
  by_cases hp : k % 2 = 0
  · rw [if_pos hp, show 2 * (k / 2) = k by omega]
    have h3 := dg_lt s (k + 1)
    have h4 := dg_lt s k
    omega
  · rw [if_neg hp, show 2 * (k / 2) + 1 = k by omega]
    have h4 := dg_lt s k
    omega
theorem dg_hex (z : List UInt8) (h : z.length = 32) (k : Nat) (hk : k < 64) : dg (hexL z) k = nibN z k := by
  have := idOf_hexL z h
  have h2 := nib_idOf (hexL z) k hk
  rw [this] at h2
  exact h2.symm
theorem begin_take (z : List UInt8) (h : z.length = 32) (n : Nat) (hn : n ≤ 64) : beginR ((hexL z).take n) = (cutL z n, (n : Int), 0) := by
  have hl : ((hexL z).take n).length = n := by rw [List.length_take, length_hexL, h]; omega
  have hok : okS ((hexL z).take n) = true := by
    have := okS_hexL z
    unfold okS at this ⊢
    rw [List.all_eq_true] at this ⊢
    exact fun x hx => this x (List.mem_of_mem_take hx)
  unfold beginR
  rw [if_neg (by omega), if_pos hok, hl]
  have e : idOf ((hexL z).take n) = cutL z n := by
    refine nib_ext _ _ (by simp [idOf]) (length_cutL _ _) fun k hk => ?_
    rw [nib_idOf _ k hk, nib_cut z n k hk]
    by_cases hkn : k < n
    · rw [if_pos hkn, dg_take _ _ _ hkn, dg_hex z h k hk]
    · rw [if_neg hkn, dg_take_ge _ _ _ (by omega)]
  rw [e]
def cutI (x : Id) (N : Nat) : Id := ⟨cutL x.l N, length_cutL _ _⟩
theorem cBegin (x : Id) (N : Nat) (hN : N ≤ 64) (s : ByteArray) (hs : s.data.toList = (hexL x.l).take N) (w : World) : Calls Try.prog 11 #[.string s] w fun e w' => ∃ u, e = .returned u ∧ Like w w' ∧ u = .tuple #[.agg (pfA (cutI x N).l (N : Int)), .int .i64 0] :=
  (begin_any s w).mono fun e w' ⟨h1, h2⟩ => ⟨_, h1, h2, by rw [hs, begin_take x.l x.h N hN]; rfl⟩
theorem cRHex (x : Id) (w : World) : Calls Try.prog 14 #[.agg (bA x.l)] w fun e w' => ∃ u, e = .returned u ∧ Like w w' ∧ u = .string ⟨(hexL x.l).toArray⟩ := (rhex_any x.l w x.h).mono fun e w' ⟨h1, h2⟩ => ⟨_, h1, h2, rfl⟩
theorem cut_right (x : Id) (N : Nat) (hN : N ≤ 64) : rightB (cutI x N).l (N : Int) = true :=
  right_yes _ N (cutI x N).h hN fun k h1 h2 => by
    show nibN (cutL x.l N) k = 0
    rw [nib_cut x.l N k h2, if_neg (by omega)]
theorem prangeOne (A : Option Addr) (n c : Nat) (l : List Id) (x : Id) (least : Int) (k N : Nat) (w0 : World) (hl : Rs w0 32 A n c (l.flatMap idf)) (hr : ris l = true) (hx : l[k]? = some x) (ht : tells l x least N) : Calls Try.prog 22 #[.slice A n c, .agg (pfA (cutI x N).l (N : Int))] w0 fun e w' => ∃ u, e = .returned u ∧ Like w0 w' ∧ u = .tuple #[.int .i64 (k : Int), .int .i64 ((k : Int) + 1)] :=
  (prangeF A n c l (cutI x N) N w0 hl hr).mono fun e w' ⟨u, h1, h2, a, b, h3, h4, h5, h6⟩ => ⟨u, h1, h2, by
    have hfit : ∀ i y, l[i]? = some y → fit (cutI x N) N y = decide (i = k) := fun i y hy => by
      have hi := ((fit_iff (cut_right x N ht.2.1) y).2.2)
      by_cases e : i = k
      · subst e
        rw [hx] at hy
        cases hy
        rw [decide_eq_true rfl]
        exact hi.2 fun j hj => by
          show nibN (cutL x.l N) j = _
          rw [nib_cut x.l N j (by have := ht.2.1; omega), if_pos (by omega)]
          rfl
      · rw [decide_eq_false e]
        cases hf : fit (cutI x N) N y
        · rfl
        · exfalso
          have hne : y ≠ x := ris_ne hr hy hx e
          have h7 := (alB_iff l x N).1 ht.2.2.1 y (List.mem_of_getElem? hy) hne
          rw [(agB_iff N y x).2 fun j hj => by
            have := hi.1 hf j (by omega)
            rw [← this]
            show nib x j = nibN (cutL x.l N) j
            rw [nib_cut x.l N j (by have := ht.2.1; omega), if_pos hj]
            rfl] at h7
          cases h7
    have hk := (List.getElem?_eq_some_iff.1 hx).1
    have hin : ∀ i, i < l.length → ((a ≤ i ∧ i < b) ↔ i = k) := fun i hi => by
      have h8 := h6 i _ (List.getElem?_eq_getElem hi)
      rw [hfit i _ (List.getElem?_eq_getElem hi)] at h8
      exact (decide_eq_decide.1 h8).symm
    have h9 := (hin k hk).2 rfl
    have ea : a = k := by
      have := (hin a (by omega)).1 ⟨Nat.le_refl _, by omega⟩
      exact this
    have eb : b = k + 1 := by
      rcases Nat.lt_or_ge (k + 1) b with h10 | h10
      · have := (hin (k + 1) (by omega)).1 ⟨by omega, h10⟩
        omega
      · omega
    rw [h3, ea, eb]
    rfl⟩
theorem cWorks (w : World) : Calls Try.prog 15 #[] w fun e w' => ∃ u, e = .returned u ∧ Like w w' ∧ u = .bool true := (works_any w).mono fun e w' ⟨h1, h2⟩ => ⟨_, h1, h2, rfl⟩
theorem str_take (l : List UInt8) (n : Nat) (hn : n ≤ l.length) : ((⟨l.toArray⟩ : ByteArray).extract 0 n).data.toList = l.take n := by
  simp [ByteArray.data_extract, Array.toList_extract, List.extract_eq_take_drop]
theorem pfA_sz (x : Id) (n : Int) : (pfA x.l n).size = 33 := size_pfA _ _ x.h


set_option maxRecDepth 100000 in
theorem beside (A : Option Addr) (n c : Nat) (l : List Id) (z : Id) (nn v : Int) (w0 : World) (hl : Rs w0 32 A n c (l.flatMap idf)) (hv : 0 ≤ v ∧ v < 256) :
    Calls Try.prog 7 #[.slice A n c, .agg (pfA z.l nn), .int .u8 v] w0 fun e w' => ∃ u, e = .returned u ∧ Like w0 w' ∧ u = .bool true := by
  refine enter1 (env := [(0, .slice A n c), (1, .agg (pfA z.l nn)), (2, .int .u8 v)]) [.slice A n c, .agg (pfA z.l nn), .int .u8 v] Try.func7 rfl Try.ntmps7 rfl rfl ?_
  have hn := ids_n hl; have hcap := hl.cap; have hmax := hl.max; have S0 := St.start w0 noM
  refine T_seq fun K1 hK1 => ?_
  refine T_region ?_
  refine L_o (o_box rfl S0 rfl fun b1 w1 hb1 S1 => ?_)
  refine L_y (y_assign rfl) rfl ?_
  refine L_nil ?_
  refine hK1 _ _ ?_
  refine T_seq fun K2 hK2 => ?_
  refine T_seq fun K3 hK3 => ?_
  refine T_region ?_
  refine L_y (y_move rfl) rfl ?_
  refine L_y (y_len Try.underlying44 rfl) rfl ?_
  refine L_y (y_gtr rfl rfl) rfl ?_
  refine L_nil ?_
  refine hK3 _ _ ?_
  refine T_cond rfl (fun h18 => ?_) (fun h18 => ?_)
  ·
    refine T_seq fun K4 hK4 => ?_
    refine T_region ?_
    refine L_o (o_call Try.func15 rfl rfl (cWorks w1) rfl rfl ?_)
    rintro e2 w2 ⟨v2, rfl, l2, rfl⟩
    refine ⟨_, rfl, ?_⟩
    have S2 := S1.like l2
    refine L_y (y_assign rfl) rfl ?_
    refine L_nil ?_
    refine hK4 _ _ ?_
    refine T_ret ?_
    repeat (first | with_reducible refine up_then ?_ | with_reducible refine up_in ?_)
    refine ret1 rfl rfl ?_
    exact ⟨_, rfl, S2.like0, rfl⟩
  ·
    refine T_skip ?_
    refine hK2 _ _ ?_
    refine T_seq fun K5 hK5 => ?_
    refine T_region ?_
    refine L_y (y_move rfl) rfl ?_
    refine L_o (o_call Try.func24 rfl rfl (rsorted A n c l w1 (S1.rd hl) (by omega)) rfl rfl ?_)
    rintro e3 w3 ⟨v3, rfl, l3, AS, m, cS, s, rfl, O3, hr, hsl⟩
    refine ⟨_, rfl, ?_⟩
    have S3 := S1.adopt l3 O3
    have hms := ids_n (S3.row 1 rfl)
    have hcs := (S3.row 1 rfl).cap
    refine L_y (y_assign rfl) rfl ?_
    refine L_nil ?_
    refine hK5 _ _ ?_
    refine T_seq fun K6 hK6 => ?_
    refine T_region ?_
    refine L_y (y_move rfl) rfl ?_
    refine L_y (y_ldW Try.underlying30 rfl sz30 rfl (S3.blk 0 rfl) (whole33 z nn)) rfl ?_
    refine L_o (o_call Try.func22 rfl rfl (prangeF AS m cS s z nn w3 (S3.row 1 rfl) hr) rfl rfl ?_)
    rintro e4 w4 ⟨v4, rfl, l4, a, b, rfl, hab, hbl, hfit⟩
    refine ⟨_, rfl, ?_⟩
    have S4 := S3.like l4
    refine L_y (y_move rfl) rfl ?_
    refine L_y (y_extract rfl rfl) rfl ?_
    refine L_y (y_extract rfl rfl) rfl ?_
    refine L_y (y_assign rfl) rfl ?_
    refine L_y (y_assign rfl) rfl ?_
    refine L_nil ?_
    refine hK6 _ _ ?_
    refine T_seq fun K7 hK7 => ?_
    refine T_seq fun K8 hK8 => ?_
    refine T_region ?_
    refine L_y (y_assign rfl) rfl ?_
    refine L_nil ?_
    refine hK8 _ _ ?_
    refine T_block ?_
    refine T_loop1 [(2, _), (4, _), (7, _), (8, _), (9, _)] (fun (k : Nat) => [(10, .int .i64 (k : Int))]) (fun (k : Nat) => m - k) (fun (k : Nat) (w : World) => k ≤ m ∧ St w0 noM [blk b1 30 (pfA z.l nn), row 23 32 AS m cS (s.flatMap idf)] w) 0 (Sub.cons rfl (by first | rfl | exact congrArg (Value.int _) (by omega)) (Sub.nil _)) (Sub.cons rfl rfl (Sub.cons rfl rfl (Sub.cons rfl rfl (Sub.cons rfl rfl (Sub.cons rfl rfl (Sub.nil _)))))) ?_ ?_
    ·
      exact ⟨Nat.zero_le _, S4⟩
    ·
      intro k w5 hrel
      obtain ⟨hk, S5⟩ := hrel
      refine T_seq fun K9 hK9 => ?_
      refine T_seq fun K10 hK10 => ?_
      refine T_region ?_
      refine L_y (y_move rfl) rfl ?_
      refine L_y (y_move rfl) rfl ?_
      refine L_y (y_len Try.underlying44 rfl) rfl ?_
      refine L_y (y_lss rfl rfl) rfl ?_
      refine L_nil ?_
      refine hK10 _ _ ?_
      refine T_cond rfl (fun h31 => ?_) (fun h31 => ?_)
      ·
        obtain ⟨y, hy⟩ : ∃ y, s[k]? = some y := ⟨_, List.getElem?_eq_getElem (by omega)⟩
        have hfk := hfit k y hy
        refine T_skip ?_
        refine hK9 _ _ ?_
        refine T_seq fun K11 hK11 => ?_
        refine T_block ?_
        refine T_seq fun K12 hK12 => ?_
        refine T_seq fun K13 hK13 => ?_
        refine T_drawnL [(0, true), (1, true), (2, true), (3, true), (4, true), (5, true), (6, true), (7, true), (9, true), (10, true), (11, true), (8, false), (12, true), (13, true), (14, true), (15, true), (16, true), (17, true)] hmix (by kernel_rfl) fun w6 l6 => ?_
        have S6 := S5.like l6
        refine DL_y rfl (y_fieldA 0 Try.underlying30 rfl sz23 rfl rfl rfl) rfl ?_
        refine DL_y rfl (y_ldW Try.underlying23 rfl sz23 rfl (S6.blk 0 rfl) (part33 z nn)) rfl ?_
        refine DL_y rfl (y_fieldA 32 Try.underlying30 rfl sz3 rfl rfl rfl) rfl ?_
        refine DL_y rfl (y_ldc Try.underlying3 rfl rfl (((S6.blk 0 rfl).cell _).trans (pfA_n z.l nn z.h))) rfl ?_
        refine DL_y rfl (y_move rfl) rfl ?_
        refine DL_y rfl (y_move rfl) rfl ?_
        refine DL_y rfl (y_idx Try.underlying44 sz23 rfl rfl (S6.row 1 rfl) (Nt.mk (by omega) : Nt _ (k)) (by omega)) rfl ?_
        refine DL_y rfl (y_ldp (f := idf) idf_len Try.underlying23 rfl sz23 rfl (S6.row 1 rfl) (by omega) hy) rfl ?_
        refine DL_y rfl (y_move rfl) rfl ?_
        refine DL_y rfl (y_move rfl) rfl ?_
        refine DL_y rfl (y_geq rfl rfl) rfl ?_
        refine DL_o rfl (o_call Try.func19 rfl rfl (cRFits z nn y w6) rfl rfl ?_)
        rintro e7 w7 ⟨v7, rfl, l7, rfl⟩
        refine ⟨_, rfl, l7, ?_⟩
        have S7 := S6.like l7
        have q7 := l7
        refine DL_y rfl (y_move rfl) rfl ?_
        refine DL_split 46 rfl (fun h46 => ?_) (fun h46 => ?_)
        ·
          refine DL_gyes rfl rfl rfl (y_move rfl) rfl ?_
          refine DL_gyes rfl rfl rfl (y_move rfl) rfl ?_
          refine DL_gyes rfl rfl rfl (y_lss rfl rfl) rfl ?_
          refine DL_y rfl ((by first | exact y_pickT rfl rfl | exact y_pickF rfl rfl)) rfl ?_
          refine DL_y rfl (y_bneq Try.underlying4 rfl rfl) rfl ?_
          refine DL_nil ?_
          refine hK13 _ _ ?_
          refine T_condB rfl (fun h51 => ?_) (fun h51 => ?_)
          ·
            first | exact absurd h51 (by rw [hfk, show decide (a ≤ k ∧ k < b) = decide ((k : Int) < (b : Int)) from decide_eq_decide.2 (by omega)]; simp) | exact absurd h51 (by rw [hfk, decide_eq_false (by omega)]; simp)
          ·
            refine T_skip ?_
            refine hK12 _ _ ?_
            refine T_seq fun K14 hK14 => ?_
            refine T_region ?_
            refine L_y (y_move rfl) rfl ?_
            refine L_y (y_move rfl) rfl ?_
            refine L_y (y_move rfl) rfl ?_
            refine L_y (y_idx Try.underlying44 sz23 rfl rfl (S7.row 1 rfl) (Nt.mk (by omega) : Nt _ (k)) (by omega)) rfl ?_
            refine L_y (y_ldp (f := idf) idf_len Try.underlying23 rfl sz23 rfl (S7.row 1 rfl) (by omega) hy) rfl ?_
            refine L_y (y_move rfl) rfl ?_
            refine L_y (y_conv is5 Try.underlying3 rfl (i64w (by omega))) rfl ?_
            refine L_o (o_call Try.func25 rfl rfl (pshortAt AS m cS s y v k w7 (S7.row 1 rfl) hr hy) rfl rfl ?_)
            rintro e8 w8 ⟨v8, rfl, l8, N, rfl, ht⟩
            refine ⟨_, rfl, ?_⟩
            have S8 := S7.like l8
            obtain ⟨ht1, ht2, ht3, ht4⟩ := id ht
            unfold n0F at ht1
            refine L_y (y_assign rfl) rfl ?_
            refine L_nil ?_
            refine hK14 _ _ ?_
            refine T_seq fun K15 hK15 => ?_
            refine T_seq fun K16 hK16 => ?_
            refine T_region ?_
            refine L_y (y_move rfl) rfl ?_
            refine L_y (y_lss rfl rfl) rfl ?_
            refine L_y (y_move rfl) rfl ?_
            refine L_split 62 rfl (fun h62 => ?_) (fun h62 => ?_)
            ·
              exact absurd h62 (by omega)
            ·
              refine L_gyes rfl rfl ?_
              refine L_y (y_move rfl) rfl ?_
              refine L_gyes rfl rfl ?_
              refine L_y (y_gtr rfl rfl) rfl ?_
              refine L_y ((by first | exact y_pickT rfl rfl | exact y_pickF rfl rfl)) rfl ?_
              refine L_y (y_move rfl) rfl ?_
              refine L_split 66 rfl (fun h66 => ?_) (fun h66 => ?_)
              ·
                exact absurd h66 (by omega)
              ·
                refine L_gyes rfl rfl ?_
                refine L_y (y_move rfl) rfl ?_
                refine L_gyes rfl rfl ?_
                refine L_y (y_move rfl) rfl ?_
                refine L_gyes rfl rfl ?_
                refine L_y (y_conv is5 Try.underlying3 rfl (i64w (by omega))) rfl ?_
                refine L_gyes rfl rfl ?_
                refine L_y (y_lss rfl rfl) rfl ?_
                refine L_gyes rfl rfl ?_
                refine L_y (y_move rfl) rfl ?_
                refine L_split 71 rfl (fun h71 => ?_) (fun h71 => ?_)
                ·
                  refine L_gyes rfl rfl ?_
                  refine L_y (y_move rfl) rfl ?_
                  refine L_gyes rfl rfl ?_
                  refine L_y (y_lss rfl rfl) rfl ?_
                  refine L_gyes rfl rfl ?_
                  refine L_y ((by first | exact y_pickT rfl rfl | exact y_pickF rfl rfl)) rfl ?_
                  refine L_y ((by first | exact y_pickT rfl rfl | exact y_pickF rfl rfl)) rfl ?_
                  refine L_nil ?_
                  refine hK16 _ _ ?_
                  refine T_cond rfl (fun h75 => ?_) (fun h75 => ?_)
                  ·
                    exact absurd h75 (by omega)
                  ·
                    refine T_skip ?_
                    refine hK15 _ _ ?_
                    refine T_seq fun K17 hK17 => ?_
                    refine T_region ?_
                    refine L_y (y_move rfl) rfl ?_
                    refine L_y (y_move rfl) rfl ?_
                    refine L_y (y_idx Try.underlying44 sz23 rfl rfl (S8.row 1 rfl) (Nt.mk (by omega) : Nt _ (k)) (by omega)) rfl ?_
                    refine L_y (y_ldp (f := idf) idf_len Try.underlying23 rfl sz23 rfl (S8.row 1 rfl) (by omega) hy) rfl ?_
                    refine L_o (o_call Try.func14 rfl rfl (cRHex y w8) rfl rfl ?_)
                    rintro e12 w12 ⟨v12, rfl, l12, rfl⟩
                    refine ⟨_, rfl, ?_⟩
                    have S12 := S8.like l12
                    refine L_y (y_move rfl) rfl ?_
                    have hhl : (⟨(hexL y.l).toArray⟩ : ByteArray).size = 64 := by simp [ByteArray.size, length_hexL, y.h]
                    refine L_y (y_ssliceH Try.underlying9 rfl rfl inferInstance (by omega)) rfl ?_
                    refine L_o (o_call Try.func11 rfl rfl (cBegin y N ht2 _ (str_take _ _ (by rw [length_hexL, y.h]; omega)) w12) rfl rfl ?_)
                    rintro e13 w13 ⟨v13, rfl, l13, rfl⟩
                    refine ⟨_, rfl, ?_⟩
                    have S13 := S12.like l13
                    refine L_y (y_move rfl) rfl ?_
                    refine L_y (y_extract rfl rfl) rfl ?_
                    refine L_y (y_extract rfl rfl) rfl ?_
                    refine L_o (o_alloc zz30 S13 rfl fun b14 w14 hb14 S14 => ?_)
                    refine L_o (o_stW S14 2 rfl rfl rfl (by rw [pfA_sz]; exact sz30) (by rw [pfA_sz]; rfl) (pfA_one _ _) fun w15 S15 => ?_)
                    refine L_y (y_assign rfl) rfl ?_
                    refine L_nil ?_
                    refine hK17 _ _ ?_
                    refine T_seq fun K18 hK18 => ?_
                    refine T_region ?_
                    refine L_y (y_move rfl) rfl ?_
                    refine L_y (y_ldW Try.underlying30 rfl sz30 rfl (S15.blk 2 rfl) (whole33 (cutI y N) N)) rfl ?_
                    refine L_o (o_call Try.func22 rfl rfl (prangeOne AS m cS s y v k N w15 (S15.row 1 rfl) hr hy ht) rfl rfl ?_)
                    rintro e16 w16 ⟨v16, rfl, l16, rfl⟩
                    refine ⟨_, rfl, ?_⟩
                    have S16 := S15.like l16
                    refine L_y (y_move rfl) rfl ?_
                    refine L_y (y_extract rfl rfl) rfl ?_
                    refine L_y (y_extract rfl rfl) rfl ?_
                    refine L_y (y_assign rfl) rfl ?_
                    refine L_y (y_assign rfl) rfl ?_
                    refine L_nil ?_
                    refine hK18 _ _ ?_
                    refine T_seq fun K19 hK19 => ?_
                    refine T_region ?_
                    refine L_y (y_move rfl) rfl ?_
                    refine L_y (y_neq rfl rfl) rfl ?_
                    refine L_y (y_move rfl) rfl ?_
                    refine L_split 95 rfl (fun h95 => ?_) (fun h95 => ?_)
                    ·
                      exact absurd rfl h95
                    ·
                      refine L_gyes rfl rfl ?_
                      refine L_y (y_move rfl) rfl ?_
                      refine L_gyes rfl rfl ?_
                      refine L_y (y_move rfl) rfl ?_
                      refine L_gyes rfl rfl ?_
                      refine L_y (y_neq rfl rfl) rfl ?_
                      refine L_y ((by first | exact y_pickT rfl rfl | exact y_pickF rfl rfl)) rfl ?_
                      refine L_y (y_move rfl) rfl ?_
                      refine L_split 100 rfl (fun h100 => ?_) (fun h100 => ?_)
                      ·
                        exact absurd rfl h100
                      ·
                        refine L_gyes rfl rfl ?_
                        refine L_y (y_move rfl) rfl ?_
                        refine L_gyes rfl rfl ?_
                        refine L_y (y_move rfl) rfl ?_
                        refine L_gyes rfl rfl ?_
                        refine L_y (y_add rfl rfl (i64w (by omega))) rfl ?_
                        refine L_gyes rfl rfl ?_
                        refine L_y (y_neq rfl rfl) rfl ?_
                        refine L_y ((by first | exact y_pickT rfl rfl | exact y_pickF rfl rfl)) rfl ?_
                        refine L_nil ?_
                        refine hK19 _ _ ?_
                        refine T_cond rfl (fun h105 => ?_) (fun h105 => ?_)
                        ·
                          exact absurd rfl h105
                        ·
                          refine T_skip ?_
                          refine hK11 _ _ ?_
                          refine T_region ?_
                          refine L_y (y_move rfl) rfl ?_
                          refine L_y (y_add rfl rfl (i64w (by omega))) rfl ?_
                          refine L_y (y_assign rfl) rfl ?_
                          refine L_nil ?_
                          have S93 := S16.drop (rs' := [_, _]) (.cons_cons _ (.cons_cons _ (.cons _ (.refl _))))
                          refine ⟨k + 1, by omega, ⟨by omega, S93⟩, ?_⟩
                          exact (Sub.cons rfl (by first | rfl | exact congrArg (Value.int _) (by omega)) (Sub.cons rfl rfl (Sub.cons rfl rfl (Sub.cons rfl rfl (Sub.cons rfl rfl (Sub.cons rfl rfl (Sub.nil _)))))))
                ·
                  refine L_gno rfl rfl rfl ?_
                  refine L_gno rfl rfl rfl ?_
                  refine L_gyes rfl rfl ?_
                  refine L_y ((by first | exact y_pickT rfl rfl | exact y_pickF rfl rfl)) rfl ?_
                  refine L_y ((by first | exact y_pickT rfl rfl | exact y_pickF rfl rfl)) rfl ?_
                  refine L_nil ?_
                  refine hK16 _ _ ?_
                  refine T_false rfl ?_
                  refine T_skip ?_
                  refine hK15 _ _ ?_
                  refine T_seq fun K20 hK20 => ?_
                  refine T_region ?_
                  refine L_y (y_move rfl) rfl ?_
                  refine L_y (y_move rfl) rfl ?_
                  refine L_y (y_idx Try.underlying44 sz23 rfl rfl (S8.row 1 rfl) (Nt.mk (by omega) : Nt _ (k)) (by omega)) rfl ?_
                  refine L_y (y_ldp (f := idf) idf_len Try.underlying23 rfl sz23 rfl (S8.row 1 rfl) (by omega) hy) rfl ?_
                  refine L_o (o_call Try.func14 rfl rfl (cRHex y w8) rfl rfl ?_)
                  rintro e19 w19 ⟨v19, rfl, l19, rfl⟩
                  refine ⟨_, rfl, ?_⟩
                  have S19 := S8.like l19
                  refine L_y (y_move rfl) rfl ?_
                  have hhl : (⟨(hexL y.l).toArray⟩ : ByteArray).size = 64 := by simp [ByteArray.size, length_hexL, y.h]
                  refine L_y (y_ssliceH Try.underlying9 rfl rfl inferInstance (by omega)) rfl ?_
                  refine L_o (o_call Try.func11 rfl rfl (cBegin y N ht2 _ (str_take _ _ (by rw [length_hexL, y.h]; omega)) w19) rfl rfl ?_)
                  rintro e20 w20 ⟨v20, rfl, l20, rfl⟩
                  refine ⟨_, rfl, ?_⟩
                  have S20 := S19.like l20
                  refine L_y (y_move rfl) rfl ?_
                  refine L_y (y_extract rfl rfl) rfl ?_
                  refine L_y (y_extract rfl rfl) rfl ?_
                  refine L_o (o_alloc zz30 S20 rfl fun b21 w21 hb21 S21 => ?_)
                  refine L_o (o_stW S21 2 rfl rfl rfl (by rw [pfA_sz]; exact sz30) (by rw [pfA_sz]; rfl) (pfA_one _ _) fun w22 S22 => ?_)
                  refine L_y (y_assign rfl) rfl ?_
                  refine L_nil ?_
                  refine hK20 _ _ ?_
                  refine T_seq fun K21 hK21 => ?_
                  refine T_region ?_
                  refine L_y (y_move rfl) rfl ?_
                  refine L_y (y_ldW Try.underlying30 rfl sz30 rfl (S22.blk 2 rfl) (whole33 (cutI y N) N)) rfl ?_
                  refine L_o (o_call Try.func22 rfl rfl (prangeOne AS m cS s y v k N w22 (S22.row 1 rfl) hr hy ht) rfl rfl ?_)
                  rintro e23 w23 ⟨v23, rfl, l23, rfl⟩
                  refine ⟨_, rfl, ?_⟩
                  have S23 := S22.like l23
                  refine L_y (y_move rfl) rfl ?_
                  refine L_y (y_extract rfl rfl) rfl ?_
                  refine L_y (y_extract rfl rfl) rfl ?_
                  refine L_y (y_assign rfl) rfl ?_
                  refine L_y (y_assign rfl) rfl ?_
                  refine L_nil ?_
                  refine hK21 _ _ ?_
                  refine T_seq fun K22 hK22 => ?_
                  refine T_region ?_
                  refine L_y (y_move rfl) rfl ?_
                  refine L_y (y_neq rfl rfl) rfl ?_
                  refine L_y (y_move rfl) rfl ?_
                  refine L_split 95 rfl (fun h95 => ?_) (fun h95 => ?_)
                  ·
                    exact absurd rfl h95
                  ·
                    refine L_gyes rfl rfl ?_
                    refine L_y (y_move rfl) rfl ?_
                    refine L_gyes rfl rfl ?_
                    refine L_y (y_move rfl) rfl ?_
                    refine L_gyes rfl rfl ?_
                    refine L_y (y_neq rfl rfl) rfl ?_
                    refine L_y ((by first | exact y_pickT rfl rfl | exact y_pickF rfl rfl)) rfl ?_
                    refine L_y (y_move rfl) rfl ?_
                    refine L_split 100 rfl (fun h100 => ?_) (fun h100 => ?_)
                    ·
                      exact absurd rfl h100
                    ·
                      refine L_gyes rfl rfl ?_
                      refine L_y (y_move rfl) rfl ?_
                      refine L_gyes rfl rfl ?_
                      refine L_y (y_move rfl) rfl ?_
                      refine L_gyes rfl rfl ?_
                      refine L_y (y_add rfl rfl (i64w (by omega))) rfl ?_
                      refine L_gyes rfl rfl ?_
                      refine L_y (y_neq rfl rfl) rfl ?_
                      refine L_y ((by first | exact y_pickT rfl rfl | exact y_pickF rfl rfl)) rfl ?_
                      refine L_nil ?_
                      refine hK22 _ _ ?_
                      refine T_cond rfl (fun h105 => ?_) (fun h105 => ?_)
                      ·
                        exact absurd rfl h105
                      ·
                        refine T_skip ?_
                        refine hK11 _ _ ?_
                        refine T_region ?_
                        refine L_y (y_move rfl) rfl ?_
                        refine L_y (y_add rfl rfl (i64w (by omega))) rfl ?_
                        refine L_y (y_assign rfl) rfl ?_
                        refine L_nil ?_
                        have S93 := S23.drop (rs' := [_, _]) (.cons_cons _ (.cons_cons _ (.cons _ (.refl _))))
                        refine ⟨k + 1, by omega, ⟨by omega, S93⟩, ?_⟩
                        exact (Sub.cons rfl (by first | rfl | exact congrArg (Value.int _) (by omega)) (Sub.cons rfl rfl (Sub.cons rfl rfl (Sub.cons rfl rfl (Sub.cons rfl rfl (Sub.cons rfl rfl (Sub.nil _)))))))
        ·
          refine DL_gno rfl rfl rfl rfl ?_
          refine DL_gno rfl rfl rfl rfl ?_
          refine DL_gno rfl rfl rfl rfl ?_
          refine DL_y rfl ((by first | exact y_pickT rfl rfl | exact y_pickF rfl rfl)) rfl ?_
          refine DL_y rfl (y_bneq Try.underlying4 rfl rfl) rfl ?_
          refine DL_nil ?_
          refine hK13 _ _ ?_
          refine T_condB rfl (fun h51 => ?_) (fun h51 => ?_)
          ·
            first | exact absurd h51 (by rw [hfk, show decide (a ≤ k ∧ k < b) = decide ((k : Int) < (b : Int)) from decide_eq_decide.2 (by omega)]; simp) | exact absurd h51 (by rw [hfk, decide_eq_false (by omega)]; simp)
          ·
            refine T_skip ?_
            refine hK12 _ _ ?_
            refine T_seq fun K23 hK23 => ?_
            refine T_region ?_
            refine L_y (y_move rfl) rfl ?_
            refine L_y (y_move rfl) rfl ?_
            refine L_y (y_move rfl) rfl ?_
            refine L_y (y_idx Try.underlying44 sz23 rfl rfl (S7.row 1 rfl) (Nt.mk (by omega) : Nt _ (k)) (by omega)) rfl ?_
            refine L_y (y_ldp (f := idf) idf_len Try.underlying23 rfl sz23 rfl (S7.row 1 rfl) (by omega) hy) rfl ?_
            refine L_y (y_move rfl) rfl ?_
            refine L_y (y_conv is5 Try.underlying3 rfl (i64w (by omega))) rfl ?_
            refine L_o (o_call Try.func25 rfl rfl (pshortAt AS m cS s y v k w7 (S7.row 1 rfl) hr hy) rfl rfl ?_)
            rintro e26 w26 ⟨v26, rfl, l26, N, rfl, ht⟩
            refine ⟨_, rfl, ?_⟩
            have S26 := S7.like l26
            obtain ⟨ht1, ht2, ht3, ht4⟩ := id ht
            unfold n0F at ht1
            refine L_y (y_assign rfl) rfl ?_
            refine L_nil ?_
            refine hK23 _ _ ?_
            refine T_seq fun K24 hK24 => ?_
            refine T_seq fun K25 hK25 => ?_
            refine T_region ?_
            refine L_y (y_move rfl) rfl ?_
            refine L_y (y_lss rfl rfl) rfl ?_
            refine L_y (y_move rfl) rfl ?_
            refine L_split 62 rfl (fun h62 => ?_) (fun h62 => ?_)
            ·
              exact absurd h62 (by omega)
            ·
              refine L_gyes rfl rfl ?_
              refine L_y (y_move rfl) rfl ?_
              refine L_gyes rfl rfl ?_
              refine L_y (y_gtr rfl rfl) rfl ?_
              refine L_y ((by first | exact y_pickT rfl rfl | exact y_pickF rfl rfl)) rfl ?_
              refine L_y (y_move rfl) rfl ?_
              refine L_split 66 rfl (fun h66 => ?_) (fun h66 => ?_)
              ·
                exact absurd h66 (by omega)
              ·
                refine L_gyes rfl rfl ?_
                refine L_y (y_move rfl) rfl ?_
                refine L_gyes rfl rfl ?_
                refine L_y (y_move rfl) rfl ?_
                refine L_gyes rfl rfl ?_
                refine L_y (y_conv is5 Try.underlying3 rfl (i64w (by omega))) rfl ?_
                refine L_gyes rfl rfl ?_
                refine L_y (y_lss rfl rfl) rfl ?_
                refine L_gyes rfl rfl ?_
                refine L_y (y_move rfl) rfl ?_
                refine L_split 71 rfl (fun h71 => ?_) (fun h71 => ?_)
                ·
                  refine L_gyes rfl rfl ?_
                  refine L_y (y_move rfl) rfl ?_
                  refine L_gyes rfl rfl ?_
                  refine L_y (y_lss rfl rfl) rfl ?_
                  refine L_gyes rfl rfl ?_
                  refine L_y ((by first | exact y_pickT rfl rfl | exact y_pickF rfl rfl)) rfl ?_
                  refine L_y ((by first | exact y_pickT rfl rfl | exact y_pickF rfl rfl)) rfl ?_
                  refine L_nil ?_
                  refine hK25 _ _ ?_
                  refine T_cond rfl (fun h75 => ?_) (fun h75 => ?_)
                  ·
                    exact absurd h75 (by omega)
                  ·
                    refine T_skip ?_
                    refine hK24 _ _ ?_
                    refine T_seq fun K26 hK26 => ?_
                    refine T_region ?_
                    refine L_y (y_move rfl) rfl ?_
                    refine L_y (y_move rfl) rfl ?_
                    refine L_y (y_idx Try.underlying44 sz23 rfl rfl (S26.row 1 rfl) (Nt.mk (by omega) : Nt _ (k)) (by omega)) rfl ?_
                    refine L_y (y_ldp (f := idf) idf_len Try.underlying23 rfl sz23 rfl (S26.row 1 rfl) (by omega) hy) rfl ?_
                    refine L_o (o_call Try.func14 rfl rfl (cRHex y w26) rfl rfl ?_)
                    rintro e30 w30 ⟨v30, rfl, l30, rfl⟩
                    refine ⟨_, rfl, ?_⟩
                    have S30 := S26.like l30
                    refine L_y (y_move rfl) rfl ?_
                    have hhl : (⟨(hexL y.l).toArray⟩ : ByteArray).size = 64 := by simp [ByteArray.size, length_hexL, y.h]
                    refine L_y (y_ssliceH Try.underlying9 rfl rfl inferInstance (by omega)) rfl ?_
                    refine L_o (o_call Try.func11 rfl rfl (cBegin y N ht2 _ (str_take _ _ (by rw [length_hexL, y.h]; omega)) w30) rfl rfl ?_)
                    rintro e31 w31 ⟨v31, rfl, l31, rfl⟩
                    refine ⟨_, rfl, ?_⟩
                    have S31 := S30.like l31
                    refine L_y (y_move rfl) rfl ?_
                    refine L_y (y_extract rfl rfl) rfl ?_
                    refine L_y (y_extract rfl rfl) rfl ?_
                    refine L_o (o_alloc zz30 S31 rfl fun b32 w32 hb32 S32 => ?_)
                    refine L_o (o_stW S32 2 rfl rfl rfl (by rw [pfA_sz]; exact sz30) (by rw [pfA_sz]; rfl) (pfA_one _ _) fun w33 S33 => ?_)
                    refine L_y (y_assign rfl) rfl ?_
                    refine L_nil ?_
                    refine hK26 _ _ ?_
                    refine T_seq fun K27 hK27 => ?_
                    refine T_region ?_
                    refine L_y (y_move rfl) rfl ?_
                    refine L_y (y_ldW Try.underlying30 rfl sz30 rfl (S33.blk 2 rfl) (whole33 (cutI y N) N)) rfl ?_
                    refine L_o (o_call Try.func22 rfl rfl (prangeOne AS m cS s y v k N w33 (S33.row 1 rfl) hr hy ht) rfl rfl ?_)
                    rintro e34 w34 ⟨v34, rfl, l34, rfl⟩
                    refine ⟨_, rfl, ?_⟩
                    have S34 := S33.like l34
                    refine L_y (y_move rfl) rfl ?_
                    refine L_y (y_extract rfl rfl) rfl ?_
                    refine L_y (y_extract rfl rfl) rfl ?_
                    refine L_y (y_assign rfl) rfl ?_
                    refine L_y (y_assign rfl) rfl ?_
                    refine L_nil ?_
                    refine hK27 _ _ ?_
                    refine T_seq fun K28 hK28 => ?_
                    refine T_region ?_
                    refine L_y (y_move rfl) rfl ?_
                    refine L_y (y_neq rfl rfl) rfl ?_
                    refine L_y (y_move rfl) rfl ?_
                    refine L_split 95 rfl (fun h95 => ?_) (fun h95 => ?_)
                    ·
                      exact absurd rfl h95
                    ·
                      refine L_gyes rfl rfl ?_
                      refine L_y (y_move rfl) rfl ?_
                      refine L_gyes rfl rfl ?_
                      refine L_y (y_move rfl) rfl ?_
                      refine L_gyes rfl rfl ?_
                      refine L_y (y_neq rfl rfl) rfl ?_
                      refine L_y ((by first | exact y_pickT rfl rfl | exact y_pickF rfl rfl)) rfl ?_
                      refine L_y (y_move rfl) rfl ?_
                      refine L_split 100 rfl (fun h100 => ?_) (fun h100 => ?_)
                      ·
                        exact absurd rfl h100
                      ·
                        refine L_gyes rfl rfl ?_
                        refine L_y (y_move rfl) rfl ?_
                        refine L_gyes rfl rfl ?_
                        refine L_y (y_move rfl) rfl ?_
                        refine L_gyes rfl rfl ?_
                        refine L_y (y_add rfl rfl (i64w (by omega))) rfl ?_
                        refine L_gyes rfl rfl ?_
                        refine L_y (y_neq rfl rfl) rfl ?_
                        refine L_y ((by first | exact y_pickT rfl rfl | exact y_pickF rfl rfl)) rfl ?_
                        refine L_nil ?_
                        refine hK28 _ _ ?_
                        refine T_cond rfl (fun h105 => ?_) (fun h105 => ?_)
                        ·
                          exact absurd rfl h105
                        ·
                          refine T_skip ?_
                          refine hK11 _ _ ?_
                          refine T_region ?_
                          refine L_y (y_move rfl) rfl ?_
                          refine L_y (y_add rfl rfl (i64w (by omega))) rfl ?_
                          refine L_y (y_assign rfl) rfl ?_
                          refine L_nil ?_
                          have S93 := S34.drop (rs' := [_, _]) (.cons_cons _ (.cons_cons _ (.cons _ (.refl _))))
                          refine ⟨k + 1, by omega, ⟨by omega, S93⟩, ?_⟩
                          exact (Sub.cons rfl (by first | rfl | exact congrArg (Value.int _) (by omega)) (Sub.cons rfl rfl (Sub.cons rfl rfl (Sub.cons rfl rfl (Sub.cons rfl rfl (Sub.cons rfl rfl (Sub.nil _)))))))
                ·
                  refine L_gno rfl rfl rfl ?_
                  refine L_gno rfl rfl rfl ?_
                  refine L_gyes rfl rfl ?_
                  refine L_y ((by first | exact y_pickT rfl rfl | exact y_pickF rfl rfl)) rfl ?_
                  refine L_y ((by first | exact y_pickT rfl rfl | exact y_pickF rfl rfl)) rfl ?_
                  refine L_nil ?_
                  refine hK25 _ _ ?_
                  refine T_false rfl ?_
                  refine T_skip ?_
                  refine hK24 _ _ ?_
                  refine T_seq fun K29 hK29 => ?_
                  refine T_region ?_
                  refine L_y (y_move rfl) rfl ?_
                  refine L_y (y_move rfl) rfl ?_
                  refine L_y (y_idx Try.underlying44 sz23 rfl rfl (S26.row 1 rfl) (Nt.mk (by omega) : Nt _ (k)) (by omega)) rfl ?_
                  refine L_y (y_ldp (f := idf) idf_len Try.underlying23 rfl sz23 rfl (S26.row 1 rfl) (by omega) hy) rfl ?_
                  refine L_o (o_call Try.func14 rfl rfl (cRHex y w26) rfl rfl ?_)
                  rintro e37 w37 ⟨v37, rfl, l37, rfl⟩
                  refine ⟨_, rfl, ?_⟩
                  have S37 := S26.like l37
                  refine L_y (y_move rfl) rfl ?_
                  have hhl : (⟨(hexL y.l).toArray⟩ : ByteArray).size = 64 := by simp [ByteArray.size, length_hexL, y.h]
                  refine L_y (y_ssliceH Try.underlying9 rfl rfl inferInstance (by omega)) rfl ?_
                  refine L_o (o_call Try.func11 rfl rfl (cBegin y N ht2 _ (str_take _ _ (by rw [length_hexL, y.h]; omega)) w37) rfl rfl ?_)
                  rintro e38 w38 ⟨v38, rfl, l38, rfl⟩
                  refine ⟨_, rfl, ?_⟩
                  have S38 := S37.like l38
                  refine L_y (y_move rfl) rfl ?_
                  refine L_y (y_extract rfl rfl) rfl ?_
                  refine L_y (y_extract rfl rfl) rfl ?_
                  refine L_o (o_alloc zz30 S38 rfl fun b39 w39 hb39 S39 => ?_)
                  refine L_o (o_stW S39 2 rfl rfl rfl (by rw [pfA_sz]; exact sz30) (by rw [pfA_sz]; rfl) (pfA_one _ _) fun w40 S40 => ?_)
                  refine L_y (y_assign rfl) rfl ?_
                  refine L_nil ?_
                  refine hK29 _ _ ?_
                  refine T_seq fun K30 hK30 => ?_
                  refine T_region ?_
                  refine L_y (y_move rfl) rfl ?_
                  refine L_y (y_ldW Try.underlying30 rfl sz30 rfl (S40.blk 2 rfl) (whole33 (cutI y N) N)) rfl ?_
                  refine L_o (o_call Try.func22 rfl rfl (prangeOne AS m cS s y v k N w40 (S40.row 1 rfl) hr hy ht) rfl rfl ?_)
                  rintro e41 w41 ⟨v41, rfl, l41, rfl⟩
                  refine ⟨_, rfl, ?_⟩
                  have S41 := S40.like l41
                  refine L_y (y_move rfl) rfl ?_
                  refine L_y (y_extract rfl rfl) rfl ?_
                  refine L_y (y_extract rfl rfl) rfl ?_
                  refine L_y (y_assign rfl) rfl ?_
                  refine L_y (y_assign rfl) rfl ?_
                  refine L_nil ?_
                  refine hK30 _ _ ?_
                  refine T_seq fun K31 hK31 => ?_
                  refine T_region ?_
                  refine L_y (y_move rfl) rfl ?_
                  refine L_y (y_neq rfl rfl) rfl ?_
                  refine L_y (y_move rfl) rfl ?_
                  refine L_split 95 rfl (fun h95 => ?_) (fun h95 => ?_)
                  ·
                    exact absurd rfl h95
                  ·
                    refine L_gyes rfl rfl ?_
                    refine L_y (y_move rfl) rfl ?_
                    refine L_gyes rfl rfl ?_
                    refine L_y (y_move rfl) rfl ?_
                    refine L_gyes rfl rfl ?_
                    refine L_y (y_neq rfl rfl) rfl ?_
                    refine L_y ((by first | exact y_pickT rfl rfl | exact y_pickF rfl rfl)) rfl ?_
                    refine L_y (y_move rfl) rfl ?_
                    refine L_split 100 rfl (fun h100 => ?_) (fun h100 => ?_)
                    ·
                      exact absurd rfl h100
                    ·
                      refine L_gyes rfl rfl ?_
                      refine L_y (y_move rfl) rfl ?_
                      refine L_gyes rfl rfl ?_
                      refine L_y (y_move rfl) rfl ?_
                      refine L_gyes rfl rfl ?_
                      refine L_y (y_add rfl rfl (i64w (by omega))) rfl ?_
                      refine L_gyes rfl rfl ?_
                      refine L_y (y_neq rfl rfl) rfl ?_
                      refine L_y ((by first | exact y_pickT rfl rfl | exact y_pickF rfl rfl)) rfl ?_
                      refine L_nil ?_
                      refine hK31 _ _ ?_
                      refine T_cond rfl (fun h105 => ?_) (fun h105 => ?_)
                      ·
                        exact absurd rfl h105
                      ·
                        refine T_skip ?_
                        refine hK11 _ _ ?_
                        refine T_region ?_
                        refine L_y (y_move rfl) rfl ?_
                        refine L_y (y_add rfl rfl (i64w (by omega))) rfl ?_
                        refine L_y (y_assign rfl) rfl ?_
                        refine L_nil ?_
                        have S93 := S41.drop (rs' := [_, _]) (.cons_cons _ (.cons_cons _ (.cons _ (.refl _))))
                        refine ⟨k + 1, by omega, ⟨by omega, S93⟩, ?_⟩
                        exact (Sub.cons rfl (by first | rfl | exact congrArg (Value.int _) (by omega)) (Sub.cons rfl rfl (Sub.cons rfl rfl (Sub.cons rfl rfl (Sub.cons rfl rfl (Sub.cons rfl rfl (Sub.nil _)))))))
      ·
        refine T_exit ?_
        refine hK7 _ _ ?_
        refine T_seq fun K32 hK32 => ?_
        refine T_region ?_
        refine L_o (o_call Try.func15 rfl rfl (cWorks w5) rfl rfl ?_)
        rintro e44 w44 ⟨v44, rfl, l44, rfl⟩
        refine ⟨_, rfl, ?_⟩
        have S44 := S5.like l44
        refine L_y (y_assign rfl) rfl ?_
        refine L_nil ?_
        refine hK32 _ _ ?_
        refine T_ret ?_
        repeat (first | with_reducible refine up_then ?_ | with_reducible refine up_in ?_)
        refine ret1 rfl rfl ?_
        exact ⟨_, rfl, S44.like0, rfl⟩
end Go.Proofs.Ytblbcmkhgjlpcaa
