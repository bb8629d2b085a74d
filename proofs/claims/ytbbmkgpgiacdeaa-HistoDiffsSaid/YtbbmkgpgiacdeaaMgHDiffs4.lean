import Derived.Test.YtbbmkgpgiacdeaaMgHDiffs3
import Derived.Test.YtbbmkgpgiacdeaaMgHDiffs2

/-
  The program: Diff, by the histogram way.
-/
namespace Go.Proofs.Ytbbmkgpgiacdeaa
open Go.RowKit Zk Zx
set_option linter.unusedVariables false
set_option linter.unusedSimpArgs false

theorem y_sliceH0 {P : Program} {S : World → Prop} {env : Env} {dst : Option Tmp} {ty : TypeId} {pos : String} {after : Array Edge} {g : Option (Nat × Bool)} {x : Operand} {t e : TypeId} {A : Option Addr} {n c u size : Nat} {kh : IntKind} {jh : Int} {j : Operand} (ht : P.underlying t = some (.slice e)) (hsz : (P.info? e).map (·.size) = some size) (hx : ev env x = some (.slice A n c))
    (hj : ev env j = some (.int kh jh)) (hu : Nt jh u) (h2 : u ≤ c) : Y P S env ⟨dst, .slice t x none (some j) none, ty, pos, after, g⟩ (.slice A u c) := by
  have h := y_sliceH (P := P) (S := S) (env := env) (dst := dst) (ty := ty) (pos := pos) (after := after) (g := g) ht hsz hx hj hu h2
  rw [cutA_zero, Nat.sub_zero, Nat.sub_zero] at h
  exact h
theorem DHK_len (a b : List Int) : (DH KM a b).length ≤ a.length := by
  have := (DH_ok KM_ok a b).len
  omega
theorem bf_snoc2 (ps : List BK) (z1 z2 : BK) : ps.flatMap bf ++ (bf z1 ++ bf z2) = (ps ++ [z1, z2]).flatMap bf := by
  rw [List.flatMap_append]
  simp
theorem bf_one3 (x y : BK) : ∀ u ∈ bf x ++ bf y, u.oneCell' = true := fun u hu => by
  rcases List.mem_append.1 hu with hu | hu
  · exact bf_one2 x u (by simpa using hu)
  · exact bf_one2 y u (by simpa using hu)
theorem Wt_two (ps : List BK) (x y : BK) : Wt (ps ++ [x, y]) = Wt ps + wt x + wt y := by simp [Wt, Nat.add_assoc]
theorem len_two {α : Type} (l : List α) (x y : α) : l.length + 2 = (l ++ [x, y]).length := by simp
theorem flat_two (f : BK → List (Nat × Nat)) (qs : List BK) (x y : BK) : (qs ++ [x, y]).flatMap f = qs.flatMap f ++ (f x ++ f y) := by simp


set_option maxRecDepth 100000 in
set_option maxHeartbeats 4000000 in
theorem hrun (A B : Option Addr) (n ca m cb : Nat) (la lb : List Int) (w0 : World) (ha : Rs w0 1 A n ca (iL la)) (hb : Rs w0 1 B m cb (iL lb)) (hn9 : n ≤ 800) (hm9 : m ≤ 800) :
    Calls Try.prog 32 #[.slice A n ca, .slice B m cb] w0 fun e w' => ∃ u, e = .returned u ∧ Like w0 w' ∧ ∃ (A : Option Addr) (ks : List (Nat × Nat)) (c : Nat), u = .slice A ks.length c ∧ w'.ownsRow w0.heap.size 34 2 (.slice A ks.length c) ks.length (ks.flatMap pf) ∧ ks.Perm (DH KM la lb) := by
  refine enter1 (env := [(0, .slice A n ca), (1, .slice B m cb)]) [.slice A n ca, .slice B m cb] Try.func32 rfl Try.ntmps32 rfl rfl ?_
  have hla := lenI ha; have hlb := lenI hb; have hcap := ha.cap; have hmax := ha.max; have hcap2 := hb.cap; have hmax2 := hb.max; have S0 := St.start w0 noM
  refine T_seq fun K1 hK1 => ?_
  refine T_region ?_
  refine L_y (y_assign rfl) rfl ?_
  refine L_nil ?_
  refine hK1 _ _ ?_
  refine T_seq fun K2 hK2 => ?_
  refine T_region ?_
  refine L_o (o_alloc zz25 S0 rfl fun b1 w1 hb1 S1 => ?_)
  have S2 := S1.nilrow 34 2
  refine L_nil ?_
  refine hK2 _ _ ?_
  refine T_seq fun K3 hK3 => ?_
  refine T_region ?_
  refine L_y (y_makeFunc rfl rfl) rfl ?_
  refine L_y (y_assign rfl) rfl ?_
  refine L_nil ?_
  refine hK3 _ _ ?_
  refine T_seq fun K4 hK4 => ?_
  refine T_seq fun K5 hK5 => ?_
  refine T_region ?_
  refine L_y (y_move rfl) rfl ?_
  refine L_y (y_len Try.underlying22 rfl) rfl ?_
  refine L_y (y_move rfl) rfl ?_
  refine L_y (y_len Try.underlying22 rfl) rfl ?_
  refine L_y (y_build rfl (show _ = some #[Value.int .i64 0, Value.int .i64 (n : Int), Value.int .i64 0, Value.int .i64 (m : Int)] by rfl)) rfl ?_
  refine L_o (o_bsl [_, _, _, _] te79 zz78 S2 rfl rfl rfl rfl rfl rfl rfl rfl fun b3 w3 S3 => ?_)
  refine L_y (y_assign rfl) rfl ?_
  have S4 : St w0 _ [_, _, _] w3 := S3.sel [2, 0, 1] (by decide)
  refine L_nil ?_
  refine hK5 _ _ ?_
  refine T_block ?_
  refine T_loop6 [(0, _), (1, _), (5, _), (6, _)] (fun (PA : Option Addr) (pc : Nat) (ps : List BK) (KA : Option Addr) (kc : Nat) (ks : List (Nat × Nat)) => [(7, .slice PA ps.length pc)]) (fun (PA : Option Addr) (pc : Nat) (ps : List BK) (KA : Option Addr) (kc : Nat) (ks : List (Nat × Nat)) => Wt ps) (fun (PA : Option Addr) (pc : Nat) (ps : List BK) (KA : Option Addr) (kc : Nat) (ks : List (Nat × Nat)) (w : World) => ((∀ z ∈ ps, BKok la.length lb.length z) ∧ Wt ps ≤ n + m + 1 ∧ (ks ++ ps.flatMap (HB KM la lb)).Perm (DH KM la lb)) ∧ St w0 noM [row 78 4 PA (ps).length pc ((ps).flatMap bf), blk b1 25 #[.slice KA (ks).length kc], row 34 2 KA (ks).length kc ((ks).flatMap pf)] w) (some ⟨b3, 0, none⟩) 1 [⟨0, n, 0, m⟩] none 0 [] (Sub.cons rfl (by first | rfl | exact congrArg (Value.int _) (by omega)) (Sub.nil _)) (Sub.cons rfl rfl (Sub.cons rfl rfl (Sub.cons rfl rfl (Sub.cons rfl rfl (Sub.nil _))))) ?_ ?_
  ·
    refine ⟨⟨fun z hz => by obtain rfl := List.mem_singleton.1 hz; exact ⟨Nat.zero_le _, (by show n ≤ la.length; omega), Nat.zero_le _, (by show m ≤ lb.length; omega)⟩, Nat.le_refl _, ?_⟩, S4⟩
    rw [List.nil_append, List.flatMap_singleton]
    unfold HB
    rw [mv_zero, show sub la 0 n = la by rw [← hla]; exact sub_all la, show sub lb 0 m = lb by rw [← hlb]; exact sub_all lb]
  ·
    intro PA pc ps KA kc ks w5 hrel
    obtain ⟨⟨hbk, hW, hpm⟩, S5⟩ := hrel
    have hWl := Wt_len ps
    have hpl := hpm.length_eq
    have hdl := DHK_len la lb
    have hpc := (S5.row 0 rfl).cap
    have hpx := (S5.row 0 rfl).max
    refine T_seq fun K6 hK6 => ?_
    refine T_seq fun K7 hK7 => ?_
    refine T_region ?_
    refine L_y (y_move rfl) rfl ?_
    refine L_y (y_len Try.underlying79 rfl) rfl ?_
    refine L_y (y_gtr rfl rfl) rfl ?_
    refine L_nil ?_
    refine hK7 _ _ ?_
    refine T_cond rfl (fun h28 => ?_) (fun h28 => ?_)
    ·
      obtain ⟨qs, ⟨a, an, b, bn⟩, rfl⟩ : ∃ qs x, ps = qs ++ [x] := ⟨ps.dropLast, ps.getLast (fun e => by rw [e] at h28; exact absurd h28 (by decide)), (List.dropLast_concat_getLast _).symm⟩
      have hql : (qs ++ [(⟨a, an, b, bn⟩ : BK)]).length = qs.length + 1 := List.length_append
      have hbx := hbk ⟨a, an, b, bn⟩ (List.mem_append_right _ (List.mem_singleton_self _))
      have ba1 : a ≤ an := hbx.1
      have ba2 : an ≤ la.length := hbx.2.1
      have ba3 : b ≤ bn := hbx.2.2.1
      have ba4 : bn ≤ lb.length := hbx.2.2.2
      have hbq : ∀ z ∈ qs, BKok la.length lb.length z := fun z hz => hbk z (List.mem_append_left _ hz)
      have hgx : (qs ++ [(⟨a, an, b, bn⟩ : BK)])[qs.length]? = some ⟨a, an, b, bn⟩ := by simp
      have hWs := Wt_snoc qs ⟨a, an, b, bn⟩
      have hwx : wt ⟨a, an, b, bn⟩ = (an - a) + (bn - b) + 1 := rfl
      have hpm9 := hpm
      rw [List.flatMap_append, List.flatMap_singleton] at hpm9
      have hT : (ks ++ (HB KM la lb ⟨a, an, b, bn⟩ ++ qs.flatMap (HB KM la lb))).length ≤ 4096 := by
        have h9 := ((List.Perm.append_left ks List.perm_append_comm).trans hpm9).length_eq
        omega
      refine T_skip ?_
      refine hK6 _ _ ?_
      refine T_block ?_
      refine T_seq fun K8 hK8 => ?_
      refine T_region ?_
      refine L_y (y_move rfl) rfl ?_
      refine L_y (y_move rfl) rfl ?_
      refine L_y (y_len Try.underlying79 rfl) rfl ?_
      refine L_y (y_sub rfl rfl (i64e (k := qs.length) (by omega))) rfl ?_
      refine L_y (y_idx Try.underlying79 sz78 rfl rfl (S5.row 0 rfl) (Nt.mk rfl : Nt _ (qs.length)) (by omega)) rfl ?_
      refine L_y (y_ldp (f := bf) bf_len Try.underlying78 rfl sz78 rfl (S5.row 0 rfl) (by omega) hgx) rfl ?_
      refine L_o (o_alloc zz78 S5 rfl fun b6 w6 hb6 S6 => ?_)
      refine L_o (o_stW S6 3 rfl rfl rfl sz78 (by rfl) (by first | exact bf_one2 ⟨a, an, b, bn⟩ | (intro u hu; simp at hu; rcases hu with rfl | rfl | rfl | rfl <;> rfl)) fun w7 S7 => ?_)
      refine L_nil ?_
      refine hK8 _ _ ?_
      refine T_seq fun K9 hK9 => ?_
      refine T_region ?_
      refine L_y (y_move rfl) rfl ?_
      refine L_y (y_move rfl) rfl ?_
      refine L_y (y_len Try.underlying79 rfl) rfl ?_
      refine L_y (y_sub rfl rfl (i64e (k := qs.length) (by omega))) rfl ?_
      refine L_y (y_sliceH0 Try.underlying79 sz78 rfl rfl inferInstance (by omega)) rfl ?_
      refine L_y (y_assign rfl) rfl ?_
      refine L_nil ?_
      refine hK9 _ _ ?_
      refine T_seq fun K10 hK10 => ?_
      have S8 := S7.rowcut 0 rfl (m := qs.length) (by omega)
      have S9 := S8.rowc 0 rfl (n' := qs.length) (xs' := qs.flatMap bf) rfl (bf_take qs _)
      have S10 : St w0 _ [_, _, _, _] w7 := S9.sel [0, 3, 1, 2] (by decide)
      have S11 : St w0 _ [row 78 4 PA (qs).length pc ((qs).flatMap bf), blk b6 78 #[.int .i64 (a : Int), .int .i64 (an : Int), .int .i64 (b : Int), .int .i64 (bn : Int)], blk b1 25 #[.slice KA (ks).length kc], row 34 2 KA (ks).length kc ((ks).flatMap pf)] w7 := S10
      refine T_drawnL [(0, true), (1, true), (2, true), (3, true), (4, true), (5, true), (6, true), (7, true), (8, true), (9, true), (10, true), (11, true), (12, false), (13, true), (14, true), (15, true), (16, true), (17, true)] hmix (by kernel_rfl) fun w12 l12 => ?_
      have S12 := S11.like l12
      refine DL_y rfl (y_move rfl) rfl ?_
      refine DL_y rfl (y_fieldA 0 Try.underlying78 rfl sz3 rfl rfl rfl) rfl ?_
      refine DL_y rfl (y_ldc Try.underlying3 rfl rfl (((S12.blk 1 rfl).cell _).trans (by rfl))) rfl ?_
      refine DL_y rfl (y_fieldA 1 Try.underlying78 rfl sz3 rfl rfl rfl) rfl ?_
      refine DL_y rfl (y_ldc Try.underlying3 rfl rfl (((S12.blk 1 rfl).cell _).trans (by rfl))) rfl ?_
      refine DL_y rfl (y_slice Try.underlying22 sz3 rfl rfl rfl inferInstance inferInstance (by omega) (by omega)) rfl ?_
      refine DL_y rfl (y_move rfl) rfl ?_
      refine DL_y rfl (y_fieldA 2 Try.underlying78 rfl sz3 rfl rfl rfl) rfl ?_
      refine DL_y rfl (y_ldc Try.underlying3 rfl rfl (((S12.blk 1 rfl).cell _).trans (by rfl))) rfl ?_
      refine DL_y rfl (y_fieldA 3 Try.underlying78 rfl sz3 rfl rfl rfl) rfl ?_
      refine DL_y rfl (y_ldc Try.underlying3 rfl rfl (((S12.blk 1 rfl).cell _).trans (by rfl))) rfl ?_
      refine DL_y rfl (y_slice Try.underlying22 sz3 rfl rfl rfl inferInstance inferInstance (by omega) (by omega)) rfl ?_
      refine DL_o rfl (o_call Try.func52 rfl rfl (pends _ _ _ _ _ _ (sub la a an) (sub lb b bn) w12 (cutI (S12.rd ha) (i := a) (u := an) (by omega) (by omega)) (cutI (S12.rd hb) (i := b) (u := bn) (by omega) (by omega))) rfl rfl ?_)
      rintro e13 w13 ⟨v13, rfl, l13, rfl⟩
      refine ⟨_, rfl, l13, ?_⟩
      have S13 := S12.like l13
      generalize hf : pre (sub la a an) (sub lb b bn) = f
      generalize ht : suf (sub la a an) (sub lb b bn) = t
      have hDD : HB KM la lb ⟨a, an, b, bn⟩ = dg a b f ++ ((mv (a + f) (b + f) (coreH KM (DH KM) (sub la (a + f) (an - t)) (sub lb (b + f) (bn - t)))) ++ dg (an - t) (bn - t) t) ∧ a + f + t ≤ an ∧ b + f + t ≤ bn := HB_eq (x := ⟨a, an, b, bn⟩) hbx hf ht
      obtain ⟨hDB, hf1, hf2⟩ := hDD
      have hT2 : ks.length + (f + ((mv (a + f) (b + f) (coreH KM (DH KM) (sub la (a + f) (an - t)) (sub lb (b + f) (bn - t)))).length + t)) + (qs.flatMap (HB KM la lb)).length ≤ 4096 := by rw [hDB] at hT; simp only [List.length_append, dg_len] at hT; omega
      have hXl : (sub la (a + f) (an - t)).length = an - t - (a + f) := sub_len (by omega)
      have hYl : (sub lb (b + f) (bn - t)).length = bn - t - (b + f) := sub_len (by omega)
      have q13 := l13
      refine DL_y rfl (y_move rfl) rfl ?_
      refine DL_y rfl (y_extract rfl rfl) rfl ?_
      refine DL_y rfl (y_extract rfl rfl) rfl ?_
      refine DL_y rfl (y_assign rfl) rfl ?_
      refine DL_y rfl (y_assign rfl) rfl ?_
      refine DL_nil ?_
      refine hK10 _ _ ?_
      refine T_seq fun K11 hK11 => ?_
      have S14 : St w0 _ [_, _, _, _] w13 := S13.sel [0, 1, 2, 3] (by decide)
      refine T_region ?_
      refine L_y (y_move rfl) rfl ?_
      refine L_y (y_fieldA 0 Try.underlying78 rfl sz3 rfl rfl rfl) rfl ?_
      refine L_y (y_ldc Try.underlying3 rfl rfl (((S14.blk 1 rfl).cell _).trans (by rfl))) rfl ?_
      refine L_y (y_fieldA 2 Try.underlying78 rfl sz3 rfl rfl rfl) rfl ?_
      refine L_y (y_ldc Try.underlying3 rfl rfl (((S14.blk 1 rfl).cell _).trans (by rfl))) rfl ?_
      refine L_y (y_move rfl) rfl ?_
      refine L_o (o_callv rfl Try.func51 rfl rfl (hkeep b1 KA kc (ks) (a) (b) (f) w13 (St.getL (ps := [_, _]) (rs := [_, _]) S14) (by omega) (by omega) (by first | omega | (simp only [List.length_append, dg_len, mv_len, List.length_take]; omega))) rfl rfl (fun d' hd => by cases hd <;> rfl) ?_)
      rintro e15 w15 ⟨v15, rfl, KK15, kc15, rfl, T15⟩
      refine ⟨_, rfl, ?_⟩
      have S15 := St.turnL (ps := [_, _]) (rs := [_, _]) (rs' := [_, _]) S14 T15
      have S16 : St w0 _ [_, _, blk b1 25 #[.slice KK15 (ks ++ dg (a) (b) (f)).length kc15], row 34 2 KK15 (ks ++ dg (a) (b) (f)).length kc15 ((ks ++ dg (a) (b) (f)).flatMap pf)] w15 := S15
      refine L_nil ?_
      refine hK11 _ _ ?_
      refine T_seq fun K12 hK12 => ?_
      have S17 : St w0 _ [_, _, _, _] w15 := S16.sel [0, 1, 2, 3] (by decide)
      refine T_region ?_
      refine L_y (y_move rfl) rfl ?_
      refine L_y (y_fieldA 1 Try.underlying78 rfl sz3 rfl rfl rfl) rfl ?_
      refine L_y (y_ldc Try.underlying3 rfl rfl (((S17.blk 1 rfl).cell _).trans (by rfl))) rfl ?_
      refine L_y (y_move rfl) rfl ?_
      refine L_y (y_sub rfl rfl (i64e (k := an - t) (by omega))) rfl ?_
      refine L_y (y_fieldA 3 Try.underlying78 rfl sz3 rfl rfl rfl) rfl ?_
      refine L_y (y_ldc Try.underlying3 rfl rfl (((S17.blk 1 rfl).cell _).trans (by rfl))) rfl ?_
      refine L_y (y_move rfl) rfl ?_
      refine L_y (y_sub rfl rfl (i64e (k := bn - t) (by omega))) rfl ?_
      refine L_y (y_move rfl) rfl ?_
      refine L_o (o_callv rfl Try.func51 rfl rfl (hkeep b1 KK15 kc15 (ks ++ dg (a) (b) (f)) (an - t) (bn - t) (t) w15 (St.getL (ps := [_, _]) (rs := [_, _]) S17) (by omega) (by omega) (by first | omega | (simp only [List.length_append, dg_len, mv_len, List.length_take]; omega))) rfl rfl (fun d' hd => by cases hd <;> rfl) ?_)
      rintro e18 w18 ⟨v18, rfl, KK18, kc18, rfl, T18⟩
      refine ⟨_, rfl, ?_⟩
      have S18 := St.turnL (ps := [_, _]) (rs := [_, _]) (rs' := [_, _]) S17 T18
      have S19 : St w0 _ [_, _, blk b1 25 #[.slice KK18 (ks ++ dg (a) (b) (f) ++ dg (an - t) (bn - t) (t)).length kc18], row 34 2 KK18 (ks ++ dg (a) (b) (f) ++ dg (an - t) (bn - t) (t)).length kc18 ((ks ++ dg (a) (b) (f) ++ dg (an - t) (bn - t) (t)).flatMap pf)] w18 := S18
      refine L_nil ?_
      refine hK12 _ _ ?_
      refine T_seq fun K13 hK13 => ?_
      refine T_region ?_
      refine L_y (y_fieldA 0 Try.underlying78 rfl sz3 rfl rfl rfl) rfl ?_
      refine L_y (y_ldc Try.underlying3 rfl rfl (((S19.blk 1 rfl).cell _).trans (by rfl))) rfl ?_
      refine L_y (y_move rfl) rfl ?_
      refine L_y (y_add rfl rfl (i64e (k := a + f) (by omega))) rfl ?_
      refine L_y (y_fieldA 1 Try.underlying78 rfl sz3 rfl rfl rfl) rfl ?_
      refine L_y (y_ldc Try.underlying3 rfl rfl (((S19.blk 1 rfl).cell _).trans (by rfl))) rfl ?_
      refine L_y (y_move rfl) rfl ?_
      refine L_y (y_sub rfl rfl (i64e (k := an - t) (by omega))) rfl ?_
      refine L_y (y_fieldA 2 Try.underlying78 rfl sz3 rfl rfl rfl) rfl ?_
      refine L_y (y_ldc Try.underlying3 rfl rfl (((S19.blk 1 rfl).cell _).trans (by rfl))) rfl ?_
      refine L_y (y_move rfl) rfl ?_
      refine L_y (y_add rfl rfl (i64e (k := b + f) (by omega))) rfl ?_
      refine L_y (y_fieldA 3 Try.underlying78 rfl sz3 rfl rfl rfl) rfl ?_
      refine L_y (y_ldc Try.underlying3 rfl rfl (((S19.blk 1 rfl).cell _).trans (by rfl))) rfl ?_
      refine L_y (y_move rfl) rfl ?_
      refine L_y (y_sub rfl rfl (i64e (k := bn - t) (by omega))) rfl ?_
      refine L_y (y_build rfl (show _ = some #[.int .i64 ((a + f : Nat) : Int), .int .i64 ((an - t : Nat) : Int), .int .i64 ((b + f : Nat) : Int), .int .i64 ((bn - t : Nat) : Int)] by rfl)) rfl ?_
      refine L_o (o_stW S19 1 rfl rfl rfl sz78 (by rfl) (by first | exact bf_one2 ⟨a, an, b, bn⟩ | (intro u hu; simp at hu; rcases hu with rfl | rfl | rfl | rfl <;> rfl)) fun w20 S20 => ?_)
      refine L_nil ?_
      refine hK13 _ _ ?_
      refine T_seq fun K14 hK14 => ?_
      have S21 : St w0 _ [_, blk b6 78 #[.int .i64 ((a + f : Nat) : Int), .int .i64 ((an - t : Nat) : Int), .int .i64 ((b + f : Nat) : Int), .int .i64 ((bn - t : Nat) : Int)], _, _] w20 := S20
      refine T_drawnX (fun w => Blk w b6 78 #[.int .i64 ((a + f : Nat) : Int), .int .i64 ((an - t : Nat) : Int), .int .i64 ((b + f : Nat) : Int), .int .i64 ((bn - t : Nat) : Int)]) hmix (by kernel_rfl) (fun w l => (S21.like l).blk 1 rfl) fun w22 l22 => ?_
      have S22 := S21.like l22
      refine DX_y 0 (by kernel_rfl) rfl (y_move rfl) rfl ?_
      refine DX_y 1 (by kernel_rfl) rfl (y_fieldA 0 Try.underlying78 rfl sz3 rfl rfl rfl) rfl ?_
      refine DX_y 2 (by kernel_rfl) rfl (y_of fun w hw => y_ldc Try.underlying3 rfl rfl (((hw).cell _).trans (by rfl))) rfl ?_
      refine DX_y 3 (by kernel_rfl) rfl (y_fieldA 1 Try.underlying78 rfl sz3 rfl rfl rfl) rfl ?_
      refine DX_y 4 (by kernel_rfl) rfl (y_of fun w hw => y_ldc Try.underlying3 rfl rfl (((hw).cell _).trans (by rfl))) rfl ?_
      refine DX_y 5 (by kernel_rfl) rfl (y_slice Try.underlying22 sz3 rfl rfl rfl inferInstance inferInstance (by omega) (by omega)) rfl ?_
      refine DX_y 6 (by kernel_rfl) rfl (y_move rfl) rfl ?_
      refine DX_y 7 (by kernel_rfl) rfl (y_fieldA 2 Try.underlying78 rfl sz3 rfl rfl rfl) rfl ?_
      refine DX_y 8 (by kernel_rfl) rfl (y_of fun w hw => y_ldc Try.underlying3 rfl rfl (((hw).cell _).trans (by rfl))) rfl ?_
      refine DX_y 9 (by kernel_rfl) rfl (y_fieldA 3 Try.underlying78 rfl sz3 rfl rfl rfl) rfl ?_
      refine DX_y 10 (by kernel_rfl) rfl (y_of fun w hw => y_ldc Try.underlying3 rfl rfl (((hw).cell _).trans (by rfl))) rfl ?_
      refine DX_y 11 (by kernel_rfl) rfl (y_slice Try.underlying22 sz3 rfl rfl rfl inferInstance inferInstance (by omega) (by omega)) rfl ?_
      refine DX_o2 12 16 (by kernel_rfl) rfl rfl ?_ ?_
      ·
        refine o_call Try.func42 rfl rfl (hbest _ _ _ _ _ _ (sub la (a + f) (an - t)) (sub lb (b + f) (bn - t)) w22 (cutI (S22.rd ha) (i := a + f) (u := an - t) (by omega) (by omega)) (cutI (S22.rd hb) (i := b + f) (u := bn - t) (by omega) (by omega)) (by omega) (by omega)) rfl rfl ?_
        rintro e23 w23 ⟨v23, rfl, l23, rfl⟩
        refine ⟨_, rfl, ?_⟩
        have S23 := S22.like l23
        have hbo := bst_ok (sub la (a + f) (an - t)) (sub lb (b + f) (bn - t))
        refine ⟨S23.blk 1 rfl, ?_⟩
        refine DX_y 13 (by kernel_rfl) rfl (y_move rfl) rfl ?_
        refine DX_y 14 (by kernel_rfl) rfl (y_extract rfl rfl) rfl ?_
        refine DX_y 15 (by kernel_rfl) rfl (y_extract rfl rfl) rfl ?_
        refine DX_o1 16 (by kernel_rfl) rfl ?_
        refine o_alloc zz43 S23 rfl fun b24 w24 hb24 S24 => ?_
        refine ⟨S24.blk 1 rfl, ?_⟩
        refine DX_o1 17 (by kernel_rfl) rfl ?_
        refine o_stW S24 4 rfl rfl rfl sz43 (by rfl) (ptf_one1 _) fun w25 S25 => ?_
        refine ⟨S25.blk 1 rfl, ?_⟩
        refine DX_y 18 (by kernel_rfl) rfl (y_assign rfl) rfl ?_
        refine DX_nil (by kernel_rfl) ?_
        refine hK14 _ _ ?_
        refine T_block ?_
        refine T_seq fun K15 hK15 => ?_
        refine T_region ?_
        refine L_y (y_move rfl) rfl ?_
        refine L_y ((by first | exact y_notD rfl | exact y_not rfl)) rfl ?_
        refine L_y (y_assign rfl) rfl ?_
        refine L_nil ?_
        refine hK15 _ _ ?_
        refine T_cond rfl (fun h146 => ?_) (fun h146 => ?_)
        ·
          have hN0 : (bst (sub la (a + f) (an - t)) (sub lb (b + f) (bn - t))).N = 0 := by omega
          refine T_skip ?_
          have S26 : St w0 _ [_, _, _] w25 := S25.sel [0, 2, 3] (by decide)
          have hM : (mv (a + f) (b + f) (coreH KM (DH KM) (sub la (a + f) (an - t)) (sub lb (b + f) (bn - t)))) = [] := by unfold coreH; rw [if_pos hN0]; rfl
          have hfin : (((ks ++ dg a b f) ++ dg (an - t) (bn - t) t) ++ (qs.flatMap (HB KM la lb))).Perm (ks ++ (HB KM la lb ⟨a, an, b, bn⟩ ++ (qs.flatMap (HB KM la lb)))) := by
            rw [hDB]
            have h := perm_one ks (dg a b f) (mv (a + f) (b + f) (coreH KM (DH KM) (sub la (a + f) (an - t)) (sub lb (b + f) (bn - t)))) (dg (an - t) (bn - t) t) (qs.flatMap (HB KM la lb))
            rw [hM, List.append_nil] at h
            rw [hM]
            exact h
          refine ⟨PA, pc, qs, _, _, _, by omega, ⟨⟨hbq, by omega, perm_pop hfin hpm9⟩, S26⟩, ?_⟩
          exact (Sub.cons rfl (by first | rfl | exact congrArg (Value.slice _ · _) (len_two _ _ _)) (Sub.cons rfl rfl (Sub.cons rfl rfl (Sub.cons rfl rfl (Sub.cons rfl rfl (Sub.nil _))))))
        ·
          have hN0 : ¬ (bst (sub la (a + f) (an - t)) (sub lb (b + f) (bn - t))).N = 0 := by omega
          obtain ⟨hbo1, hbo2, _⟩ := hbo hN0
          refine T_seq fun K16 hK16 => ?_
          refine T_region ?_
          refine L_y (y_fieldA 3 Try.underlying43 rfl sz3 rfl rfl rfl) rfl ?_
          refine L_y (y_ldc Try.underlying3 rfl rfl (((S25.blk 4 rfl).cell _).trans (by rfl))) rfl ?_
          refine L_y (y_gtr rfl rfl) rfl ?_
          refine L_y (y_assign rfl) rfl ?_
          refine L_nil ?_
          refine hK16 _ _ ?_
          refine T_cond rfl (fun h149 => ?_) (fun h149 => ?_)
          ·
            have hM : (mv (a + f) (b + f) (coreH KM (DH KM) (sub la (a + f) (an - t)) (sub lb (b + f) (bn - t)))) = mv (a + f) (b + f) (KM (sub la (a + f) (an - t)) (sub lb (b + f) (bn - t))) := by unfold coreH; rw [if_neg hN0, if_pos (by omega)]
            have hml : (mv (a + f) (b + f) (coreH KM (DH KM) (sub la (a + f) (an - t)) (sub lb (b + f) (bn - t)))).length = (KM (sub la (a + f) (an - t)) (sub lb (b + f) (bn - t))).length := by rw [hM, mv_len]
            refine T_seq fun K17 hK17 => ?_
            refine T_drawnL [(0, true), (1, true), (2, true), (3, true), (4, true), (5, true), (6, true), (7, true), (8, true), (9, true), (10, true), (11, true), (12, false), (13, true), (14, true), (15, true), (16, true), (17, true)] hmix (by kernel_rfl) fun w27 l27 => ?_
            have S27 := S25.like l27
            refine DL_y rfl (y_move rfl) rfl ?_
            refine DL_y rfl (y_fieldA 0 Try.underlying78 rfl sz3 rfl rfl rfl) rfl ?_
            refine DL_y rfl (y_ldc Try.underlying3 rfl rfl (((S27.blk 1 rfl).cell _).trans (by rfl))) rfl ?_
            refine DL_y rfl (y_fieldA 1 Try.underlying78 rfl sz3 rfl rfl rfl) rfl ?_
            refine DL_y rfl (y_ldc Try.underlying3 rfl rfl (((S27.blk 1 rfl).cell _).trans (by rfl))) rfl ?_
            refine DL_y rfl (y_slice Try.underlying22 sz3 rfl rfl rfl inferInstance inferInstance (by omega) (by omega)) rfl ?_
            refine DL_y rfl (y_move rfl) rfl ?_
            refine DL_y rfl (y_fieldA 2 Try.underlying78 rfl sz3 rfl rfl rfl) rfl ?_
            refine DL_y rfl (y_ldc Try.underlying3 rfl rfl (((S27.blk 1 rfl).cell _).trans (by rfl))) rfl ?_
            refine DL_y rfl (y_fieldA 3 Try.underlying78 rfl sz3 rfl rfl rfl) rfl ?_
            refine DL_y rfl (y_ldc Try.underlying3 rfl rfl (((S27.blk 1 rfl).cell _).trans (by rfl))) rfl ?_
            refine DL_y rfl (y_slice Try.underlying22 sz3 rfl rfl rfl inferInstance inferInstance (by omega) (by omega)) rfl ?_
            refine DL_o rfl (o_call Try.func53 rfl rfl (fdiff _ _ _ _ _ _ (sub la (a + f) (an - t)) (sub lb (b + f) (bn - t)) w27 (cutI (S27.rd ha) (i := a + f) (u := an - t) (by omega) (by omega)) (cutI (S27.rd hb) (i := b + f) (u := bn - t) (by omega) (by omega)) (by omega) (by omega)) rfl rfl ?_)
            rintro e28 w28 ⟨v28, rfl, l28, A28, n28, c28, rfl, O28⟩
            refine ⟨_, rfl, l28, ?_⟩
            have S28 := S27.adopt l28 O28
            have hdn : n28 = (KM (sub la (a + f) (an - t)) (sub lb (b + f) (bn - t))).length := pf_n (S28.row 5 rfl)
            have q28 := l28
            refine DL_y rfl (y_move rfl) rfl ?_
            refine DL_y rfl (y_extract rfl rfl) rfl ?_
            refine DL_y rfl (y_extract rfl rfl) rfl ?_
            refine DL_y rfl (y_assign rfl) rfl ?_
            refine DL_y rfl (y_assign rfl) rfl ?_
            refine DL_nil ?_
            refine hK17 _ _ ?_
            refine T_seq fun K18 hK18 => ?_
            have S29 : St w0 _ [_, _, _, _, _] w28 := S28.sel [0, 1, 5, 2, 3] (by decide)
            refine T_region ?_
            refine L_y (y_move rfl) rfl ?_
            refine L_y (y_len Try.underlying25 rfl) rfl ?_
            refine L_y (y_move rfl) rfl ?_
            refine L_nil ?_
            refine hK18 _ _ ?_
            refine T_block ?_
            refine T_loop3 [(0, _), (1, _), (5, _), (6, _), (7, _), (8, _), (169, _), (170, _)] (fun (j : Nat) (K1 : Option Addr) (c1 : Nat) => [(171, .int .i64 (j : Int))]) (fun (j : Nat) (K1 : Option Addr) (c1 : Nat) => (KM (sub la (a + f) (an - t)) (sub lb (b + f) (bn - t))).length - j) (fun (j : Nat) (K1 : Option Addr) (c1 : Nat) (w : World) => j ≤ (KM (sub la (a + f) (an - t)) (sub lb (b + f) (bn - t))).length ∧ St w0 noM [row 78 4 PA (qs).length pc ((qs).flatMap bf), blk b6 78 #[.int .i64 ((a + f : Nat) : Int), .int .i64 ((an - t : Nat) : Int), .int .i64 ((b + f : Nat) : Int), .int .i64 ((bn - t : Nat) : Int)], row 34 2 A28 n28 c28 ((KM (sub la (a + f) (an - t)) (sub lb (b + f) (bn - t))).flatMap pf), blk b1 25 #[.slice K1 (((ks ++ dg a b f) ++ dg (an - t) (bn - t) t) ++ mv (a + f) (b + f) ((KM (sub la (a + f) (an - t)) (sub lb (b + f) (bn - t))).take j)).length c1], row 34 2 K1 (((ks ++ dg a b f) ++ dg (an - t) (bn - t) t) ++ mv (a + f) (b + f) ((KM (sub la (a + f) (an - t)) (sub lb (b + f) (bn - t))).take j)).length c1 ((((ks ++ dg a b f) ++ dg (an - t) (bn - t) t) ++ mv (a + f) (b + f) ((KM (sub la (a + f) (an - t)) (sub lb (b + f) (bn - t))).take j)).flatMap pf)] w) 0 KK18 kc18 (Sub.cons rfl (by first | rfl | exact congrArg (Value.int _) (by omega)) (Sub.nil _)) (Sub.cons rfl rfl (Sub.cons rfl rfl (Sub.cons rfl rfl (Sub.cons rfl rfl (Sub.cons rfl rfl (Sub.cons rfl rfl (Sub.cons rfl rfl (Sub.cons rfl rfl (Sub.nil _))))))))) ?_ ?_
            ·
              exact ⟨Nat.zero_le _, by rw [List.take_zero, mv_nil, List.append_nil]; exact S29⟩
            ·
              intro j K1 c1 w30 hrel
              obtain ⟨hj, S30⟩ := hrel
              have hjl : ((KM (sub la (a + f) (an - t)) (sub lb (b + f) (bn - t))).take j).length = j := by rw [List.length_take]; omega
              refine T_seq fun K19 hK19 => ?_
              refine T_region ?_
              refine L_y (y_lss rfl rfl) rfl ?_
              refine L_nil ?_
              refine hK19 _ _ ?_
              refine T_seq fun K20 hK20 => ?_
              refine T_cond rfl (fun h172 => ?_) (fun h172 => ?_)
              ·
                obtain ⟨p, hp⟩ : ∃ p, (KM (sub la (a + f) (an - t)) (sub lb (b + f) (bn - t)))[j]? = some p := ⟨_, List.getElem?_eq_getElem (by omega)⟩
                have hpb := (keep_ok (sub la (a + f) (an - t)) (sub lb (b + f) (bn - t)) _ 0 0 rfl).1 p (List.mem_of_getElem? hp)
                refine T_skip ?_
                refine hK20 _ _ ?_
                refine T_seq fun K21 hK21 => ?_
                refine T_block ?_
                refine T_seq fun K22 hK22 => ?_
                refine T_region ?_
                refine L_y (y_idx Try.underlying25 sz34 rfl rfl (S30.row 2 rfl) (Nt.mk rfl : Nt _ (j)) (by omega)) rfl ?_
                refine L_y (y_ldp (f := pf) pf_len1 Try.underlying34 rfl sz34 rfl (S30.row 2 rfl) (by omega) hp) rfl ?_
                refine L_o (o_alloc zz34 S30 rfl fun b31 w31 hb31 S31 => ?_)
                refine L_o (o_stW S31 5 rfl rfl rfl sz34 (by rfl) (pf_one1 p) fun w32 S32 => ?_)
                refine L_nil ?_
                refine hK22 _ _ ?_
                have S33 : St w0 _ [_, _, _, _, _, _] w32 := S32.sel [0, 1, 2, 5, 3, 4] (by decide)
                refine T_region ?_
                refine L_y (y_move rfl) rfl ?_
                refine L_y (y_fieldA 0 Try.underlying78 rfl sz3 rfl rfl rfl) rfl ?_
                refine L_y (y_ldc Try.underlying3 rfl rfl (((S33.blk 1 rfl).cell _).trans (by rfl))) rfl ?_
                refine L_y (y_fieldA 0 Try.underlying34 rfl sz3 rfl rfl rfl) rfl ?_
                refine L_y (y_ldc Try.underlying3 rfl rfl (((S33.blk 3 rfl).cell _).trans (by rfl))) rfl ?_
                refine L_y (y_add rfl rfl (i64e (k := a + f + p.1) (by omega))) rfl ?_
                refine L_y (y_fieldA 2 Try.underlying78 rfl sz3 rfl rfl rfl) rfl ?_
                refine L_y (y_ldc Try.underlying3 rfl rfl (((S33.blk 1 rfl).cell _).trans (by rfl))) rfl ?_
                refine L_y (y_fieldA 1 Try.underlying34 rfl sz3 rfl rfl rfl) rfl ?_
                refine L_y (y_ldc Try.underlying3 rfl rfl (((S33.blk 3 rfl).cell _).trans (by rfl))) rfl ?_
                refine L_y (y_add rfl rfl (i64e (k := b + f + p.2) (by omega))) rfl ?_
                refine L_o (o_callv rfl Try.func51 rfl rfl (hkeep b1 K1 c1 (((ks ++ dg a b f) ++ dg (an - t) (bn - t) t) ++ mv (a + f) (b + f) ((KM (sub la (a + f) (an - t)) (sub lb (b + f) (bn - t))).take j)) (a + f + p.1) (b + f + p.2) (1) w32 (St.getL (ps := [_, _, _, _]) (rs := [_, _]) S33) (by omega) (by omega) (by first | omega | (simp only [List.length_append, dg_len, mv_len, List.length_take]; omega))) rfl rfl (fun d' hd => by cases hd <;> rfl) ?_)
                rintro e34 w34 ⟨v34, rfl, KK34, kc34, rfl, T34⟩
                refine ⟨_, rfl, ?_⟩
                have S34 := St.turnL (ps := [_, _, _, _]) (rs := [_, _]) (rs' := [_, _]) S33 T34
                have S35 : St w0 _ [_, _, _, _, blk b1 25 #[.slice KK34 (((ks ++ dg a b f) ++ dg (an - t) (bn - t) t) ++ mv (a + f) (b + f) ((KM (sub la (a + f) (an - t)) (sub lb (b + f) (bn - t))).take j) ++ dg (a + f + p.1) (b + f + p.2) (1)).length kc34], row 34 2 KK34 (((ks ++ dg a b f) ++ dg (an - t) (bn - t) t) ++ mv (a + f) (b + f) ((KM (sub la (a + f) (an - t)) (sub lb (b + f) (bn - t))).take j) ++ dg (a + f + p.1) (b + f + p.2) (1)).length kc34 ((((ks ++ dg a b f) ++ dg (an - t) (bn - t) t) ++ mv (a + f) (b + f) ((KM (sub la (a + f) (an - t)) (sub lb (b + f) (bn - t))).take j) ++ dg (a + f + p.1) (b + f + p.2) (1)).flatMap pf)] w34 := S34
                refine L_nil ?_
                refine hK21 _ _ ?_
                have S36 : St w0 _ [_, _, _, _, _] w34 := S35.sel [0, 1, 2, 4, 5] (by decide)
                refine T_region ?_
                refine L_y (y_add rfl rfl (i64w (by omega))) rfl ?_
                refine L_y (y_move rfl) rfl ?_
                refine L_nil ?_
                rw [List.append_assoc, dg_one, ← mv_snoc hp (a + f) (b + f)] at S36
                refine ⟨j + 1, _, _, by omega, ⟨by omega, S36⟩, ?_⟩
                exact (Sub.cons rfl (by first | rfl | exact congrArg (Value.int _) (by omega)) (Sub.cons rfl rfl (Sub.cons rfl rfl (Sub.cons rfl rfl (Sub.cons rfl rfl (Sub.cons rfl rfl (Sub.cons rfl rfl (Sub.cons rfl rfl (Sub.cons rfl rfl (Sub.nil _))))))))))
              ·
                refine T_exit ?_
                have S37 : St w0 _ [_, _, _] w30 := S30.sel [0, 3, 4] (by decide)
                have hje : j = (KM (sub la (a + f) (an - t)) (sub lb (b + f) (bn - t))).length := by omega
                subst hje
                have hfin : ((((ks ++ dg a b f) ++ dg (an - t) (bn - t) t) ++ mv (a + f) (b + f) ((KM (sub la (a + f) (an - t)) (sub lb (b + f) (bn - t))).take (KM (sub la (a + f) (an - t)) (sub lb (b + f) (bn - t))).length)) ++ (qs.flatMap (HB KM la lb))).Perm (ks ++ (HB KM la lb ⟨a, an, b, bn⟩ ++ (qs.flatMap (HB KM la lb)))) := by
                  rw [List.take_length, ← hM, hDB]
                  exact (perm_tail _ _ _).trans (perm_one _ _ _ _ _)
                refine ⟨PA, pc, qs, _, _, _, by omega, ⟨⟨hbq, by omega, perm_pop hfin hpm9⟩, S37⟩, ?_⟩
                exact (Sub.cons rfl (by first | rfl | exact congrArg (Value.slice _ · _) (len_two _ _ _)) (Sub.cons rfl rfl (Sub.cons rfl rfl (Sub.cons rfl rfl (Sub.cons rfl rfl (Sub.nil _))))))
          ·
            have hsp : (mv (a + f) (b + f) (coreH KM (DH KM) (sub la (a + f) (an - t)) (sub lb (b + f) (bn - t)))) = HB KM la lb (⟨a + f, a + f + (bst (sub la (a + f) (an - t)) (sub lb (b + f) (bn - t))).A, b + f, b + f + (bst (sub la (a + f) (an - t)) (sub lb (b + f) (bn - t))).B⟩ : BK) ++ (dg (a + f + (bst (sub la (a + f) (an - t)) (sub lb (b + f) (bn - t))).A) (b + f + (bst (sub la (a + f) (an - t)) (sub lb (b + f) (bn - t))).B) (bst (sub la (a + f) (an - t)) (sub lb (b + f) (bn - t))).N ++ HB KM la lb (⟨a + f + (bst (sub la (a + f) (an - t)) (sub lb (b + f) (bn - t))).A + (bst (sub la (a + f) (an - t)) (sub lb (b + f) (bn - t))).N, an - t, b + f + (bst (sub la (a + f) (an - t)) (sub lb (b + f) (bn - t))).B + (bst (sub la (a + f) (an - t)) (sub lb (b + f) (bn - t))).N, bn - t⟩ : BK)) := by unfold coreH; rw [if_neg hN0, if_neg (by omega)]; exact split_eq (by omega) (by omega)
            have hml := congrArg List.length hsp
            rw [List.length_append, List.length_append, dg_len] at hml
            refine T_seq fun K23 hK23 => ?_
            refine T_drawnL [(0, true), (1, true), (2, true), (3, true), (4, true), (5, true), (6, true), (7, true), (8, true), (9, true), (10, true), (11, true)] hmix (by kernel_rfl) fun w38 l38 => ?_
            have S38 := S25.like l38
            refine DL_y rfl (y_fieldA 0 Try.underlying78 rfl sz3 rfl rfl rfl) rfl ?_
            refine DL_y rfl (y_ldc Try.underlying3 rfl rfl (((S38.blk 1 rfl).cell _).trans (by rfl))) rfl ?_
            refine DL_y rfl (y_fieldA 0 Try.underlying43 rfl sz3 rfl rfl rfl) rfl ?_
            refine DL_y rfl (y_ldc Try.underlying3 rfl rfl (((S38.blk 4 rfl).cell _).trans (by rfl))) rfl ?_
            refine DL_y rfl (y_add rfl rfl (i64e (k := a + f + (bst (sub la (a + f) (an - t)) (sub lb (b + f) (bn - t))).A) (by omega))) rfl ?_
            refine DL_y rfl (y_fieldA 2 Try.underlying78 rfl sz3 rfl rfl rfl) rfl ?_
            refine DL_y rfl (y_ldc Try.underlying3 rfl rfl (((S38.blk 1 rfl).cell _).trans (by rfl))) rfl ?_
            refine DL_y rfl (y_fieldA 1 Try.underlying43 rfl sz3 rfl rfl rfl) rfl ?_
            refine DL_y rfl (y_ldc Try.underlying3 rfl rfl (((S38.blk 4 rfl).cell _).trans (by rfl))) rfl ?_
            refine DL_y rfl (y_add rfl rfl (i64e (k := b + f + (bst (sub la (a + f) (an - t)) (sub lb (b + f) (bn - t))).B) (by omega))) rfl ?_
            refine DL_y rfl (y_assign rfl) rfl ?_
            refine DL_y rfl (y_assign rfl) rfl ?_
            refine DL_nil ?_
            refine hK23 _ _ ?_
            refine T_seq fun K24 hK24 => ?_
            have S39 : St w0 _ [_, _, _, _, _] w38 := S38.sel [0, 1, 4, 2, 3] (by decide)
            refine T_region ?_
            refine L_y (y_move rfl) rfl ?_
            refine L_y (y_move rfl) rfl ?_
            refine L_y (y_move rfl) rfl ?_
            refine L_y (y_fieldA 2 Try.underlying43 rfl sz3 rfl rfl rfl) rfl ?_
            refine L_y (y_ldc Try.underlying3 rfl rfl (((S39.blk 2 rfl).cell _).trans (by rfl))) rfl ?_
            refine L_o (o_callv rfl Try.func51 rfl rfl (hkeep b1 KK18 kc18 (ks ++ dg (a) (b) (f) ++ dg (an - t) (bn - t) (t)) (a + f + (bst (sub la (a + f) (an - t)) (sub lb (b + f) (bn - t))).A) (b + f + (bst (sub la (a + f) (an - t)) (sub lb (b + f) (bn - t))).B) ((bst (sub la (a + f) (an - t)) (sub lb (b + f) (bn - t))).N) w38 (St.getL (ps := [_, _, _]) (rs := [_, _]) S39) (by omega) (by omega) (by first | omega | (simp only [List.length_append, dg_len, mv_len, List.length_take]; omega))) rfl rfl (fun d' hd => by cases hd <;> rfl) ?_)
            rintro e40 w40 ⟨v40, rfl, KK40, kc40, rfl, T40⟩
            refine ⟨_, rfl, ?_⟩
            have S40 := St.turnL (ps := [_, _, _]) (rs := [_, _]) (rs' := [_, _]) S39 T40
            have S41 : St w0 _ [_, _, _, blk b1 25 #[.slice KK40 (ks ++ dg (a) (b) (f) ++ dg (an - t) (bn - t) (t) ++ dg (a + f + (bst (sub la (a + f) (an - t)) (sub lb (b + f) (bn - t))).A) (b + f + (bst (sub la (a + f) (an - t)) (sub lb (b + f) (bn - t))).B) ((bst (sub la (a + f) (an - t)) (sub lb (b + f) (bn - t))).N)).length kc40], row 34 2 KK40 (ks ++ dg (a) (b) (f) ++ dg (an - t) (bn - t) (t) ++ dg (a + f + (bst (sub la (a + f) (an - t)) (sub lb (b + f) (bn - t))).A) (b + f + (bst (sub la (a + f) (an - t)) (sub lb (b + f) (bn - t))).B) ((bst (sub la (a + f) (an - t)) (sub lb (b + f) (bn - t))).N)).length kc40 ((ks ++ dg (a) (b) (f) ++ dg (an - t) (bn - t) (t) ++ dg (a + f + (bst (sub la (a + f) (an - t)) (sub lb (b + f) (bn - t))).A) (b + f + (bst (sub la (a + f) (an - t)) (sub lb (b + f) (bn - t))).B) ((bst (sub la (a + f) (an - t)) (sub lb (b + f) (bn - t))).N)).flatMap pf)] w40 := S40
            refine L_nil ?_
            refine hK24 _ _ ?_
            refine T_region ?_
            refine L_y (y_move rfl) rfl ?_
            refine L_y (y_fieldA 0 Try.underlying78 rfl sz3 rfl rfl rfl) rfl ?_
            refine L_y (y_ldc Try.underlying3 rfl rfl (((S41.blk 1 rfl).cell _).trans (by rfl))) rfl ?_
            refine L_y (y_move rfl) rfl ?_
            refine L_y (y_fieldA 2 Try.underlying78 rfl sz3 rfl rfl rfl) rfl ?_
            refine L_y (y_ldc Try.underlying3 rfl rfl (((S41.blk 1 rfl).cell _).trans (by rfl))) rfl ?_
            refine L_y (y_move rfl) rfl ?_
            refine L_y (y_build rfl (show _ = some #[Value.int .i64 ((a + f : Nat) : Int), Value.int .i64 ((a + f + (bst (sub la (a + f) (an - t)) (sub lb (b + f) (bn - t))).A : Nat) : Int), Value.int .i64 ((b + f : Nat) : Int), Value.int .i64 ((b + f + (bst (sub la (a + f) (an - t)) (sub lb (b + f) (bn - t))).B : Nat) : Int)] by rfl)) rfl ?_
            refine L_y (y_move rfl) rfl ?_
            refine L_y (y_fieldA 2 Try.underlying43 rfl sz3 rfl rfl rfl) rfl ?_
            refine L_y (y_ldc Try.underlying3 rfl rfl (((S41.blk 2 rfl).cell _).trans (by rfl))) rfl ?_
            refine L_y (y_add rfl rfl (i64e (k := a + f + (bst (sub la (a + f) (an - t)) (sub lb (b + f) (bn - t))).A + (bst (sub la (a + f) (an - t)) (sub lb (b + f) (bn - t))).N) (by omega))) rfl ?_
            refine L_y (y_fieldA 1 Try.underlying78 rfl sz3 rfl rfl rfl) rfl ?_
            refine L_y (y_ldc Try.underlying3 rfl rfl (((S41.blk 1 rfl).cell _).trans (by rfl))) rfl ?_
            refine L_y (y_move rfl) rfl ?_
            refine L_y (y_fieldA 2 Try.underlying43 rfl sz3 rfl rfl rfl) rfl ?_
            refine L_y (y_ldc Try.underlying3 rfl rfl (((S41.blk 2 rfl).cell _).trans (by rfl))) rfl ?_
            refine L_y (y_add rfl rfl (i64e (k := b + f + (bst (sub la (a + f) (an - t)) (sub lb (b + f) (bn - t))).B + (bst (sub la (a + f) (an - t)) (sub lb (b + f) (bn - t))).N) (by omega))) rfl ?_
            refine L_y (y_fieldA 3 Try.underlying78 rfl sz3 rfl rfl rfl) rfl ?_
            refine L_y (y_ldc Try.underlying3 rfl rfl (((S41.blk 1 rfl).cell _).trans (by rfl))) rfl ?_
            refine L_y (y_build rfl (show _ = some #[Value.int .i64 ((a + f + (bst (sub la (a + f) (an - t)) (sub lb (b + f) (bn - t))).A + (bst (sub la (a + f) (an - t)) (sub lb (b + f) (bn - t))).N : Nat) : Int), Value.int .i64 ((an - t : Nat) : Int), Value.int .i64 ((b + f + (bst (sub la (a + f) (an - t)) (sub lb (b + f) (bn - t))).B + (bst (sub la (a + f) (an - t)) (sub lb (b + f) (bn - t))).N : Nat) : Int), Value.int .i64 ((bn - t : Nat) : Int)] by rfl)) rfl ?_
            refine L_o (o_bsl [_, _, _, _, _, _, _, _] te79 zz78 S41 rfl rfl rfl rfl rfl rfl rfl rfl fun b42 w42 S42 => ?_)
            refine L_o (o_app te79 S42 0 rfl rfl rfl (by first | exact S42.row 0 rfl | exact S42.row 4 rfl | exact S42.row 5 rfl) (bf_one3 ⟨a + f, a + f + (bst (sub la (a + f) (an - t)) (sub lb (b + f) (bn - t))).A, b + f, b + f + (bst (sub la (a + f) (an - t)) (sub lb (b + f) (bn - t))).B⟩ ⟨a + f + (bst (sub la (a + f) (an - t)) (sub lb (b + f) (bn - t))).A + (bst (sub la (a + f) (an - t)) (sub lb (b + f) (bn - t))).N, an - t, b + f + (bst (sub la (a + f) (an - t)) (sub lb (b + f) (bn - t))).B + (bst (sub la (a + f) (an - t)) (sub lb (b + f) (bn - t))).N, bn - t⟩) rfl (by omega) (by omega) fun A43 c43 w43 S43 => ?_)
            have S43d := S43.drop (rs' := [_, _, _, _, _]) (.cons_cons _ (.cons_cons _ (.cons_cons _ (.cons_cons _ (.cons_cons _ (.cons _ (.refl _)))))))
            refine L_y (y_assign rfl) rfl ?_
            refine L_nil ?_
            have S44 : St w0 _ [_, _, _] w43 := S43d.sel [0, 3, 4] (by decide)
            have S45 := S44.rowc 0 rfl (n' := (qs ++ [(⟨a + f, a + f + (bst (sub la (a + f) (an - t)) (sub lb (b + f) (bn - t))).A, b + f, b + f + (bst (sub la (a + f) (an - t)) (sub lb (b + f) (bn - t))).B⟩ : BK), (⟨a + f + (bst (sub la (a + f) (an - t)) (sub lb (b + f) (bn - t))).A + (bst (sub la (a + f) (an - t)) (sub lb (b + f) (bn - t))).N, an - t, b + f + (bst (sub la (a + f) (an - t)) (sub lb (b + f) (bn - t))).B + (bst (sub la (a + f) (an - t)) (sub lb (b + f) (bn - t))).N, bn - t⟩ : BK)]).length) (xs' := (qs ++ [(⟨a + f, a + f + (bst (sub la (a + f) (an - t)) (sub lb (b + f) (bn - t))).A, b + f, b + f + (bst (sub la (a + f) (an - t)) (sub lb (b + f) (bn - t))).B⟩ : BK), (⟨a + f + (bst (sub la (a + f) (an - t)) (sub lb (b + f) (bn - t))).A + (bst (sub la (a + f) (an - t)) (sub lb (b + f) (bn - t))).N, an - t, b + f + (bst (sub la (a + f) (an - t)) (sub lb (b + f) (bn - t))).B + (bst (sub la (a + f) (an - t)) (sub lb (b + f) (bn - t))).N, bn - t⟩ : BK)]).flatMap bf) (len_two _ _ _) (bf_snoc2 qs (⟨a + f, a + f + (bst (sub la (a + f) (an - t)) (sub lb (b + f) (bn - t))).A, b + f, b + f + (bst (sub la (a + f) (an - t)) (sub lb (b + f) (bn - t))).B⟩ : BK) (⟨a + f + (bst (sub la (a + f) (an - t)) (sub lb (b + f) (bn - t))).A + (bst (sub la (a + f) (an - t)) (sub lb (b + f) (bn - t))).N, an - t, b + f + (bst (sub la (a + f) (an - t)) (sub lb (b + f) (bn - t))).B + (bst (sub la (a + f) (an - t)) (sub lb (b + f) (bn - t))).N, bn - t⟩ : BK))
            have hW2 := Wt_two qs (⟨a + f, a + f + (bst (sub la (a + f) (an - t)) (sub lb (b + f) (bn - t))).A, b + f, b + f + (bst (sub la (a + f) (an - t)) (sub lb (b + f) (bn - t))).B⟩ : BK) (⟨a + f + (bst (sub la (a + f) (an - t)) (sub lb (b + f) (bn - t))).A + (bst (sub la (a + f) (an - t)) (sub lb (b + f) (bn - t))).N, an - t, b + f + (bst (sub la (a + f) (an - t)) (sub lb (b + f) (bn - t))).B + (bst (sub la (a + f) (an - t)) (sub lb (b + f) (bn - t))).N, bn - t⟩ : BK)
            have hw1 : wt (⟨a + f, a + f + (bst (sub la (a + f) (an - t)) (sub lb (b + f) (bn - t))).A, b + f, b + f + (bst (sub la (a + f) (an - t)) (sub lb (b + f) (bn - t))).B⟩ : BK) = (a + f + (bst (sub la (a + f) (an - t)) (sub lb (b + f) (bn - t))).A - (a + f)) + (b + f + (bst (sub la (a + f) (an - t)) (sub lb (b + f) (bn - t))).B - (b + f)) + 1 := rfl
            have hw2 : wt (⟨a + f + (bst (sub la (a + f) (an - t)) (sub lb (b + f) (bn - t))).A + (bst (sub la (a + f) (an - t)) (sub lb (b + f) (bn - t))).N, an - t, b + f + (bst (sub la (a + f) (an - t)) (sub lb (b + f) (bn - t))).B + (bst (sub la (a + f) (an - t)) (sub lb (b + f) (bn - t))).N, bn - t⟩ : BK) = (an - t - (a + f + (bst (sub la (a + f) (an - t)) (sub lb (b + f) (bn - t))).A + (bst (sub la (a + f) (an - t)) (sub lb (b + f) (bn - t))).N)) + (bn - t - (b + f + (bst (sub la (a + f) (an - t)) (sub lb (b + f) (bn - t))).B + (bst (sub la (a + f) (an - t)) (sub lb (b + f) (bn - t))).N)) + 1 := rfl
            have hbk2 : ∀ z ∈ qs ++ [(⟨a + f, a + f + (bst (sub la (a + f) (an - t)) (sub lb (b + f) (bn - t))).A, b + f, b + f + (bst (sub la (a + f) (an - t)) (sub lb (b + f) (bn - t))).B⟩ : BK), (⟨a + f + (bst (sub la (a + f) (an - t)) (sub lb (b + f) (bn - t))).A + (bst (sub la (a + f) (an - t)) (sub lb (b + f) (bn - t))).N, an - t, b + f + (bst (sub la (a + f) (an - t)) (sub lb (b + f) (bn - t))).B + (bst (sub la (a + f) (an - t)) (sub lb (b + f) (bn - t))).N, bn - t⟩ : BK)], BKok la.length lb.length z := fun z hz => by
              rcases List.mem_append.1 hz with hz | hz
              · exact hbq z hz
              · simp only [List.mem_cons, List.not_mem_nil, or_false] at hz
                rcases hz with rfl | rfl
                · exact ⟨by show a + f ≤ a + f + _; omega, by show a + f + (bst (sub la (a + f) (an - t)) (sub lb (b + f) (bn - t))).A ≤ _; omega, by show b + f ≤ b + f + _; omega, by show b + f + (bst (sub la (a + f) (an - t)) (sub lb (b + f) (bn - t))).B ≤ _; omega⟩
                · exact ⟨by show a + f + (bst (sub la (a + f) (an - t)) (sub lb (b + f) (bn - t))).A + (bst (sub la (a + f) (an - t)) (sub lb (b + f) (bn - t))).N ≤ an - t; omega, by show an - t ≤ _; omega, by show b + f + (bst (sub la (a + f) (an - t)) (sub lb (b + f) (bn - t))).B + (bst (sub la (a + f) (an - t)) (sub lb (b + f) (bn - t))).N ≤ bn - t; omega, by show bn - t ≤ _; omega⟩
            have hfin : ((((ks ++ dg a b f) ++ dg (an - t) (bn - t) t) ++ dg (a + f + (bst (sub la (a + f) (an - t)) (sub lb (b + f) (bn - t))).A) (b + f + (bst (sub la (a + f) (an - t)) (sub lb (b + f) (bn - t))).B) (bst (sub la (a + f) (an - t)) (sub lb (b + f) (bn - t))).N) ++ (qs ++ [(⟨a + f, a + f + (bst (sub la (a + f) (an - t)) (sub lb (b + f) (bn - t))).A, b + f, b + f + (bst (sub la (a + f) (an - t)) (sub lb (b + f) (bn - t))).B⟩ : BK), (⟨a + f + (bst (sub la (a + f) (an - t)) (sub lb (b + f) (bn - t))).A + (bst (sub la (a + f) (an - t)) (sub lb (b + f) (bn - t))).N, an - t, b + f + (bst (sub la (a + f) (an - t)) (sub lb (b + f) (bn - t))).B + (bst (sub la (a + f) (an - t)) (sub lb (b + f) (bn - t))).N, bn - t⟩ : BK)]).flatMap (HB KM la lb)).Perm (ks ++ (HB KM la lb ⟨a, an, b, bn⟩ ++ (qs.flatMap (HB KM la lb)))) := by
              rw [flat_two, hDB]
              refine (perm_mid2 _ _ _ _ _).trans ?_
              rw [hsp]
              exact perm_one _ _ _ _ _
            refine ⟨A43, c43, qs ++ [(⟨a + f, a + f + (bst (sub la (a + f) (an - t)) (sub lb (b + f) (bn - t))).A, b + f, b + f + (bst (sub la (a + f) (an - t)) (sub lb (b + f) (bn - t))).B⟩ : BK), (⟨a + f + (bst (sub la (a + f) (an - t)) (sub lb (b + f) (bn - t))).A + (bst (sub la (a + f) (an - t)) (sub lb (b + f) (bn - t))).N, an - t, b + f + (bst (sub la (a + f) (an - t)) (sub lb (b + f) (bn - t))).B + (bst (sub la (a + f) (an - t)) (sub lb (b + f) (bn - t))).N, bn - t⟩ : BK)], _, _, _, by omega, ⟨⟨hbk2, by omega, perm_pop hfin hpm9⟩, S45⟩, ?_⟩
            exact (Sub.cons rfl (by first | rfl | exact congrArg (Value.slice _ · _) (len_two _ _ _)) (Sub.cons rfl rfl (Sub.cons rfl rfl (Sub.cons rfl rfl (Sub.cons rfl rfl (Sub.nil _))))))
      ·
        refine o_alloc zz43 S22 rfl fun b46 w46 hb46 S46 => ?_
        refine ⟨S46.blk 1 rfl, ?_⟩
        refine DX_o1 12 (by kernel_rfl) rfl ?_
        refine o_call Try.func42 rfl rfl (hbest _ _ _ _ _ _ (sub la (a + f) (an - t)) (sub lb (b + f) (bn - t)) w46 (cutI (S46.rd ha) (i := a + f) (u := an - t) (by omega) (by omega)) (cutI (S46.rd hb) (i := b + f) (u := bn - t) (by omega) (by omega)) (by omega) (by omega)) rfl rfl ?_
        rintro e47 w47 ⟨v47, rfl, l47, rfl⟩
        refine ⟨_, rfl, ?_⟩
        have S47 := S46.like l47
        have hbo := bst_ok (sub la (a + f) (an - t)) (sub lb (b + f) (bn - t))
        refine ⟨S47.blk 1 rfl, ?_⟩
        refine DX_y 13 (by kernel_rfl) rfl (y_move rfl) rfl ?_
        refine DX_y 14 (by kernel_rfl) rfl (y_extract rfl rfl) rfl ?_
        refine DX_y 15 (by kernel_rfl) rfl (y_extract rfl rfl) rfl ?_
        refine DX_o1 17 (by kernel_rfl) rfl ?_
        refine o_stW S47 4 rfl rfl rfl sz43 (by rfl) (ptf_one1 _) fun w48 S48 => ?_
        refine ⟨S48.blk 1 rfl, ?_⟩
        refine DX_y 18 (by kernel_rfl) rfl (y_assign rfl) rfl ?_
        refine DX_nil (by kernel_rfl) ?_
        refine hK14 _ _ ?_
        refine T_block ?_
        refine T_seq fun K25 hK25 => ?_
        refine T_region ?_
        refine L_y (y_move rfl) rfl ?_
        refine L_y ((by first | exact y_notD rfl | exact y_not rfl)) rfl ?_
        refine L_y (y_assign rfl) rfl ?_
        refine L_nil ?_
        refine hK25 _ _ ?_
        refine T_cond rfl (fun h146 => ?_) (fun h146 => ?_)
        ·
          have hN0 : (bst (sub la (a + f) (an - t)) (sub lb (b + f) (bn - t))).N = 0 := by omega
          refine T_skip ?_
          have S49 : St w0 _ [_, _, _] w48 := S48.sel [0, 2, 3] (by decide)
          have hM : (mv (a + f) (b + f) (coreH KM (DH KM) (sub la (a + f) (an - t)) (sub lb (b + f) (bn - t)))) = [] := by unfold coreH; rw [if_pos hN0]; rfl
          have hfin : (((ks ++ dg a b f) ++ dg (an - t) (bn - t) t) ++ (qs.flatMap (HB KM la lb))).Perm (ks ++ (HB KM la lb ⟨a, an, b, bn⟩ ++ (qs.flatMap (HB KM la lb)))) := by
            rw [hDB]
            have h := perm_one ks (dg a b f) (mv (a + f) (b + f) (coreH KM (DH KM) (sub la (a + f) (an - t)) (sub lb (b + f) (bn - t)))) (dg (an - t) (bn - t) t) (qs.flatMap (HB KM la lb))
            rw [hM, List.append_nil] at h
            rw [hM]
            exact h
          refine ⟨PA, pc, qs, _, _, _, by omega, ⟨⟨hbq, by omega, perm_pop hfin hpm9⟩, S49⟩, ?_⟩
          exact (Sub.cons rfl (by first | rfl | exact congrArg (Value.slice _ · _) (len_two _ _ _)) (Sub.cons rfl rfl (Sub.cons rfl rfl (Sub.cons rfl rfl (Sub.cons rfl rfl (Sub.nil _))))))
        ·
          have hN0 : ¬ (bst (sub la (a + f) (an - t)) (sub lb (b + f) (bn - t))).N = 0 := by omega
          obtain ⟨hbo1, hbo2, _⟩ := hbo hN0
          refine T_seq fun K26 hK26 => ?_
          refine T_region ?_
          refine L_y (y_fieldA 3 Try.underlying43 rfl sz3 rfl rfl rfl) rfl ?_
          refine L_y (y_ldc Try.underlying3 rfl rfl (((S48.blk 4 rfl).cell _).trans (by rfl))) rfl ?_
          refine L_y (y_gtr rfl rfl) rfl ?_
          refine L_y (y_assign rfl) rfl ?_
          refine L_nil ?_
          refine hK26 _ _ ?_
          refine T_cond rfl (fun h149 => ?_) (fun h149 => ?_)
          ·
            have hM : (mv (a + f) (b + f) (coreH KM (DH KM) (sub la (a + f) (an - t)) (sub lb (b + f) (bn - t)))) = mv (a + f) (b + f) (KM (sub la (a + f) (an - t)) (sub lb (b + f) (bn - t))) := by unfold coreH; rw [if_neg hN0, if_pos (by omega)]
            have hml : (mv (a + f) (b + f) (coreH KM (DH KM) (sub la (a + f) (an - t)) (sub lb (b + f) (bn - t)))).length = (KM (sub la (a + f) (an - t)) (sub lb (b + f) (bn - t))).length := by rw [hM, mv_len]
            refine T_seq fun K27 hK27 => ?_
            refine T_drawnL [(0, true), (1, true), (2, true), (3, true), (4, true), (5, true), (6, true), (7, true), (8, true), (9, true), (10, true), (11, true), (12, false), (13, true), (14, true), (15, true), (16, true), (17, true)] hmix (by kernel_rfl) fun w50 l50 => ?_
            have S50 := S48.like l50
            refine DL_y rfl (y_move rfl) rfl ?_
            refine DL_y rfl (y_fieldA 0 Try.underlying78 rfl sz3 rfl rfl rfl) rfl ?_
            refine DL_y rfl (y_ldc Try.underlying3 rfl rfl (((S50.blk 1 rfl).cell _).trans (by rfl))) rfl ?_
            refine DL_y rfl (y_fieldA 1 Try.underlying78 rfl sz3 rfl rfl rfl) rfl ?_
            refine DL_y rfl (y_ldc Try.underlying3 rfl rfl (((S50.blk 1 rfl).cell _).trans (by rfl))) rfl ?_
            refine DL_y rfl (y_slice Try.underlying22 sz3 rfl rfl rfl inferInstance inferInstance (by omega) (by omega)) rfl ?_
            refine DL_y rfl (y_move rfl) rfl ?_
            refine DL_y rfl (y_fieldA 2 Try.underlying78 rfl sz3 rfl rfl rfl) rfl ?_
            refine DL_y rfl (y_ldc Try.underlying3 rfl rfl (((S50.blk 1 rfl).cell _).trans (by rfl))) rfl ?_
            refine DL_y rfl (y_fieldA 3 Try.underlying78 rfl sz3 rfl rfl rfl) rfl ?_
            refine DL_y rfl (y_ldc Try.underlying3 rfl rfl (((S50.blk 1 rfl).cell _).trans (by rfl))) rfl ?_
            refine DL_y rfl (y_slice Try.underlying22 sz3 rfl rfl rfl inferInstance inferInstance (by omega) (by omega)) rfl ?_
            refine DL_o rfl (o_call Try.func53 rfl rfl (fdiff _ _ _ _ _ _ (sub la (a + f) (an - t)) (sub lb (b + f) (bn - t)) w50 (cutI (S50.rd ha) (i := a + f) (u := an - t) (by omega) (by omega)) (cutI (S50.rd hb) (i := b + f) (u := bn - t) (by omega) (by omega)) (by omega) (by omega)) rfl rfl ?_)
            rintro e51 w51 ⟨v51, rfl, l51, A51, n51, c51, rfl, O51⟩
            refine ⟨_, rfl, l51, ?_⟩
            have S51 := S50.adopt l51 O51
            have hdn : n51 = (KM (sub la (a + f) (an - t)) (sub lb (b + f) (bn - t))).length := pf_n (S51.row 5 rfl)
            have q51 := l51
            refine DL_y rfl (y_move rfl) rfl ?_
            refine DL_y rfl (y_extract rfl rfl) rfl ?_
            refine DL_y rfl (y_extract rfl rfl) rfl ?_
            refine DL_y rfl (y_assign rfl) rfl ?_
            refine DL_y rfl (y_assign rfl) rfl ?_
            refine DL_nil ?_
            refine hK27 _ _ ?_
            refine T_seq fun K28 hK28 => ?_
            have S52 : St w0 _ [_, _, _, _, _] w51 := S51.sel [0, 1, 5, 2, 3] (by decide)
            refine T_region ?_
            refine L_y (y_move rfl) rfl ?_
            refine L_y (y_len Try.underlying25 rfl) rfl ?_
            refine L_y (y_move rfl) rfl ?_
            refine L_nil ?_
            refine hK28 _ _ ?_
            refine T_block ?_
            refine T_loop3 [(0, _), (1, _), (5, _), (6, _), (7, _), (8, _), (169, _), (170, _)] (fun (j : Nat) (K1 : Option Addr) (c1 : Nat) => [(171, .int .i64 (j : Int))]) (fun (j : Nat) (K1 : Option Addr) (c1 : Nat) => (KM (sub la (a + f) (an - t)) (sub lb (b + f) (bn - t))).length - j) (fun (j : Nat) (K1 : Option Addr) (c1 : Nat) (w : World) => j ≤ (KM (sub la (a + f) (an - t)) (sub lb (b + f) (bn - t))).length ∧ St w0 noM [row 78 4 PA (qs).length pc ((qs).flatMap bf), blk b6 78 #[.int .i64 ((a + f : Nat) : Int), .int .i64 ((an - t : Nat) : Int), .int .i64 ((b + f : Nat) : Int), .int .i64 ((bn - t : Nat) : Int)], row 34 2 A51 n51 c51 ((KM (sub la (a + f) (an - t)) (sub lb (b + f) (bn - t))).flatMap pf), blk b1 25 #[.slice K1 (((ks ++ dg a b f) ++ dg (an - t) (bn - t) t) ++ mv (a + f) (b + f) ((KM (sub la (a + f) (an - t)) (sub lb (b + f) (bn - t))).take j)).length c1], row 34 2 K1 (((ks ++ dg a b f) ++ dg (an - t) (bn - t) t) ++ mv (a + f) (b + f) ((KM (sub la (a + f) (an - t)) (sub lb (b + f) (bn - t))).take j)).length c1 ((((ks ++ dg a b f) ++ dg (an - t) (bn - t) t) ++ mv (a + f) (b + f) ((KM (sub la (a + f) (an - t)) (sub lb (b + f) (bn - t))).take j)).flatMap pf)] w) 0 KK18 kc18 (Sub.cons rfl (by first | rfl | exact congrArg (Value.int _) (by omega)) (Sub.nil _)) (Sub.cons rfl rfl (Sub.cons rfl rfl (Sub.cons rfl rfl (Sub.cons rfl rfl (Sub.cons rfl rfl (Sub.cons rfl rfl (Sub.cons rfl rfl (Sub.cons rfl rfl (Sub.nil _))))))))) ?_ ?_
            ·
              exact ⟨Nat.zero_le _, by rw [List.take_zero, mv_nil, List.append_nil]; exact S52⟩
            ·
              intro j K1 c1 w53 hrel
              obtain ⟨hj, S53⟩ := hrel
              have hjl : ((KM (sub la (a + f) (an - t)) (sub lb (b + f) (bn - t))).take j).length = j := by rw [List.length_take]; omega
              refine T_seq fun K29 hK29 => ?_
              refine T_region ?_
              refine L_y (y_lss rfl rfl) rfl ?_
              refine L_nil ?_
              refine hK29 _ _ ?_
              refine T_seq fun K30 hK30 => ?_
              refine T_cond rfl (fun h172 => ?_) (fun h172 => ?_)
              ·
                obtain ⟨p, hp⟩ : ∃ p, (KM (sub la (a + f) (an - t)) (sub lb (b + f) (bn - t)))[j]? = some p := ⟨_, List.getElem?_eq_getElem (by omega)⟩
                have hpb := (keep_ok (sub la (a + f) (an - t)) (sub lb (b + f) (bn - t)) _ 0 0 rfl).1 p (List.mem_of_getElem? hp)
                refine T_skip ?_
                refine hK30 _ _ ?_
                refine T_seq fun K31 hK31 => ?_
                refine T_block ?_
                refine T_seq fun K32 hK32 => ?_
                refine T_region ?_
                refine L_y (y_idx Try.underlying25 sz34 rfl rfl (S53.row 2 rfl) (Nt.mk rfl : Nt _ (j)) (by omega)) rfl ?_
                refine L_y (y_ldp (f := pf) pf_len1 Try.underlying34 rfl sz34 rfl (S53.row 2 rfl) (by omega) hp) rfl ?_
                refine L_o (o_alloc zz34 S53 rfl fun b54 w54 hb54 S54 => ?_)
                refine L_o (o_stW S54 5 rfl rfl rfl sz34 (by rfl) (pf_one1 p) fun w55 S55 => ?_)
                refine L_nil ?_
                refine hK32 _ _ ?_
                have S56 : St w0 _ [_, _, _, _, _, _] w55 := S55.sel [0, 1, 2, 5, 3, 4] (by decide)
                refine T_region ?_
                refine L_y (y_move rfl) rfl ?_
                refine L_y (y_fieldA 0 Try.underlying78 rfl sz3 rfl rfl rfl) rfl ?_
                refine L_y (y_ldc Try.underlying3 rfl rfl (((S56.blk 1 rfl).cell _).trans (by rfl))) rfl ?_
                refine L_y (y_fieldA 0 Try.underlying34 rfl sz3 rfl rfl rfl) rfl ?_
                refine L_y (y_ldc Try.underlying3 rfl rfl (((S56.blk 3 rfl).cell _).trans (by rfl))) rfl ?_
                refine L_y (y_add rfl rfl (i64e (k := a + f + p.1) (by omega))) rfl ?_
                refine L_y (y_fieldA 2 Try.underlying78 rfl sz3 rfl rfl rfl) rfl ?_
                refine L_y (y_ldc Try.underlying3 rfl rfl (((S56.blk 1 rfl).cell _).trans (by rfl))) rfl ?_
                refine L_y (y_fieldA 1 Try.underlying34 rfl sz3 rfl rfl rfl) rfl ?_
                refine L_y (y_ldc Try.underlying3 rfl rfl (((S56.blk 3 rfl).cell _).trans (by rfl))) rfl ?_
                refine L_y (y_add rfl rfl (i64e (k := b + f + p.2) (by omega))) rfl ?_
                refine L_o (o_callv rfl Try.func51 rfl rfl (hkeep b1 K1 c1 (((ks ++ dg a b f) ++ dg (an - t) (bn - t) t) ++ mv (a + f) (b + f) ((KM (sub la (a + f) (an - t)) (sub lb (b + f) (bn - t))).take j)) (a + f + p.1) (b + f + p.2) (1) w55 (St.getL (ps := [_, _, _, _]) (rs := [_, _]) S56) (by omega) (by omega) (by first | omega | (simp only [List.length_append, dg_len, mv_len, List.length_take]; omega))) rfl rfl (fun d' hd => by cases hd <;> rfl) ?_)
                rintro e57 w57 ⟨v57, rfl, KK57, kc57, rfl, T57⟩
                refine ⟨_, rfl, ?_⟩
                have S57 := St.turnL (ps := [_, _, _, _]) (rs := [_, _]) (rs' := [_, _]) S56 T57
                have S58 : St w0 _ [_, _, _, _, blk b1 25 #[.slice KK57 (((ks ++ dg a b f) ++ dg (an - t) (bn - t) t) ++ mv (a + f) (b + f) ((KM (sub la (a + f) (an - t)) (sub lb (b + f) (bn - t))).take j) ++ dg (a + f + p.1) (b + f + p.2) (1)).length kc57], row 34 2 KK57 (((ks ++ dg a b f) ++ dg (an - t) (bn - t) t) ++ mv (a + f) (b + f) ((KM (sub la (a + f) (an - t)) (sub lb (b + f) (bn - t))).take j) ++ dg (a + f + p.1) (b + f + p.2) (1)).length kc57 ((((ks ++ dg a b f) ++ dg (an - t) (bn - t) t) ++ mv (a + f) (b + f) ((KM (sub la (a + f) (an - t)) (sub lb (b + f) (bn - t))).take j) ++ dg (a + f + p.1) (b + f + p.2) (1)).flatMap pf)] w57 := S57
                refine L_nil ?_
                refine hK31 _ _ ?_
                have S59 : St w0 _ [_, _, _, _, _] w57 := S58.sel [0, 1, 2, 4, 5] (by decide)
                refine T_region ?_
                refine L_y (y_add rfl rfl (i64w (by omega))) rfl ?_
                refine L_y (y_move rfl) rfl ?_
                refine L_nil ?_
                rw [List.append_assoc, dg_one, ← mv_snoc hp (a + f) (b + f)] at S59
                refine ⟨j + 1, _, _, by omega, ⟨by omega, S59⟩, ?_⟩
                exact (Sub.cons rfl (by first | rfl | exact congrArg (Value.int _) (by omega)) (Sub.cons rfl rfl (Sub.cons rfl rfl (Sub.cons rfl rfl (Sub.cons rfl rfl (Sub.cons rfl rfl (Sub.cons rfl rfl (Sub.cons rfl rfl (Sub.cons rfl rfl (Sub.nil _))))))))))
              ·
                refine T_exit ?_
                have S60 : St w0 _ [_, _, _] w53 := S53.sel [0, 3, 4] (by decide)
                have hje : j = (KM (sub la (a + f) (an - t)) (sub lb (b + f) (bn - t))).length := by omega
                subst hje
                have hfin : ((((ks ++ dg a b f) ++ dg (an - t) (bn - t) t) ++ mv (a + f) (b + f) ((KM (sub la (a + f) (an - t)) (sub lb (b + f) (bn - t))).take (KM (sub la (a + f) (an - t)) (sub lb (b + f) (bn - t))).length)) ++ (qs.flatMap (HB KM la lb))).Perm (ks ++ (HB KM la lb ⟨a, an, b, bn⟩ ++ (qs.flatMap (HB KM la lb)))) := by
                  rw [List.take_length, ← hM, hDB]
                  exact (perm_tail _ _ _).trans (perm_one _ _ _ _ _)
                refine ⟨PA, pc, qs, _, _, _, by omega, ⟨⟨hbq, by omega, perm_pop hfin hpm9⟩, S60⟩, ?_⟩
                exact (Sub.cons rfl (by first | rfl | exact congrArg (Value.slice _ · _) (len_two _ _ _)) (Sub.cons rfl rfl (Sub.cons rfl rfl (Sub.cons rfl rfl (Sub.cons rfl rfl (Sub.nil _))))))
          ·
            have hsp : (mv (a + f) (b + f) (coreH KM (DH KM) (sub la (a + f) (an - t)) (sub lb (b + f) (bn - t)))) = HB KM la lb (⟨a + f, a + f + (bst (sub la (a + f) (an - t)) (sub lb (b + f) (bn - t))).A, b + f, b + f + (bst (sub la (a + f) (an - t)) (sub lb (b + f) (bn - t))).B⟩ : BK) ++ (dg (a + f + (bst (sub la (a + f) (an - t)) (sub lb (b + f) (bn - t))).A) (b + f + (bst (sub la (a + f) (an - t)) (sub lb (b + f) (bn - t))).B) (bst (sub la (a + f) (an - t)) (sub lb (b + f) (bn - t))).N ++ HB KM la lb (⟨a + f + (bst (sub la (a + f) (an - t)) (sub lb (b + f) (bn - t))).A + (bst (sub la (a + f) (an - t)) (sub lb (b + f) (bn - t))).N, an - t, b + f + (bst (sub la (a + f) (an - t)) (sub lb (b + f) (bn - t))).B + (bst (sub la (a + f) (an - t)) (sub lb (b + f) (bn - t))).N, bn - t⟩ : BK)) := by unfold coreH; rw [if_neg hN0, if_neg (by omega)]; exact split_eq (by omega) (by omega)
            have hml := congrArg List.length hsp
            rw [List.length_append, List.length_append, dg_len] at hml
            refine T_seq fun K33 hK33 => ?_
            refine T_drawnL [(0, true), (1, true), (2, true), (3, true), (4, true), (5, true), (6, true), (7, true), (8, true), (9, true), (10, true), (11, true)] hmix (by kernel_rfl) fun w61 l61 => ?_
            have S61 := S48.like l61
            refine DL_y rfl (y_fieldA 0 Try.underlying78 rfl sz3 rfl rfl rfl) rfl ?_
            refine DL_y rfl (y_ldc Try.underlying3 rfl rfl (((S61.blk 1 rfl).cell _).trans (by rfl))) rfl ?_
            refine DL_y rfl (y_fieldA 0 Try.underlying43 rfl sz3 rfl rfl rfl) rfl ?_
            refine DL_y rfl (y_ldc Try.underlying3 rfl rfl (((S61.blk 4 rfl).cell _).trans (by rfl))) rfl ?_
            refine DL_y rfl (y_add rfl rfl (i64e (k := a + f + (bst (sub la (a + f) (an - t)) (sub lb (b + f) (bn - t))).A) (by omega))) rfl ?_
            refine DL_y rfl (y_fieldA 2 Try.underlying78 rfl sz3 rfl rfl rfl) rfl ?_
            refine DL_y rfl (y_ldc Try.underlying3 rfl rfl (((S61.blk 1 rfl).cell _).trans (by rfl))) rfl ?_
            refine DL_y rfl (y_fieldA 1 Try.underlying43 rfl sz3 rfl rfl rfl) rfl ?_
            refine DL_y rfl (y_ldc Try.underlying3 rfl rfl (((S61.blk 4 rfl).cell _).trans (by rfl))) rfl ?_
            refine DL_y rfl (y_add rfl rfl (i64e (k := b + f + (bst (sub la (a + f) (an - t)) (sub lb (b + f) (bn - t))).B) (by omega))) rfl ?_
            refine DL_y rfl (y_assign rfl) rfl ?_
            refine DL_y rfl (y_assign rfl) rfl ?_
            refine DL_nil ?_
            refine hK33 _ _ ?_
            refine T_seq fun K34 hK34 => ?_
            have S62 : St w0 _ [_, _, _, _, _] w61 := S61.sel [0, 1, 4, 2, 3] (by decide)
            refine T_region ?_
            refine L_y (y_move rfl) rfl ?_
            refine L_y (y_move rfl) rfl ?_
            refine L_y (y_move rfl) rfl ?_
            refine L_y (y_fieldA 2 Try.underlying43 rfl sz3 rfl rfl rfl) rfl ?_
            refine L_y (y_ldc Try.underlying3 rfl rfl (((S62.blk 2 rfl).cell _).trans (by rfl))) rfl ?_
            refine L_o (o_callv rfl Try.func51 rfl rfl (hkeep b1 KK18 kc18 (ks ++ dg (a) (b) (f) ++ dg (an - t) (bn - t) (t)) (a + f + (bst (sub la (a + f) (an - t)) (sub lb (b + f) (bn - t))).A) (b + f + (bst (sub la (a + f) (an - t)) (sub lb (b + f) (bn - t))).B) ((bst (sub la (a + f) (an - t)) (sub lb (b + f) (bn - t))).N) w61 (St.getL (ps := [_, _, _]) (rs := [_, _]) S62) (by omega) (by omega) (by first | omega | (simp only [List.length_append, dg_len, mv_len, List.length_take]; omega))) rfl rfl (fun d' hd => by cases hd <;> rfl) ?_)
            rintro e63 w63 ⟨v63, rfl, KK63, kc63, rfl, T63⟩
            refine ⟨_, rfl, ?_⟩
            have S63 := St.turnL (ps := [_, _, _]) (rs := [_, _]) (rs' := [_, _]) S62 T63
            have S64 : St w0 _ [_, _, _, blk b1 25 #[.slice KK63 (ks ++ dg (a) (b) (f) ++ dg (an - t) (bn - t) (t) ++ dg (a + f + (bst (sub la (a + f) (an - t)) (sub lb (b + f) (bn - t))).A) (b + f + (bst (sub la (a + f) (an - t)) (sub lb (b + f) (bn - t))).B) ((bst (sub la (a + f) (an - t)) (sub lb (b + f) (bn - t))).N)).length kc63], row 34 2 KK63 (ks ++ dg (a) (b) (f) ++ dg (an - t) (bn - t) (t) ++ dg (a + f + (bst (sub la (a + f) (an - t)) (sub lb (b + f) (bn - t))).A) (b + f + (bst (sub la (a + f) (an - t)) (sub lb (b + f) (bn - t))).B) ((bst (sub la (a + f) (an - t)) (sub lb (b + f) (bn - t))).N)).length kc63 ((ks ++ dg (a) (b) (f) ++ dg (an - t) (bn - t) (t) ++ dg (a + f + (bst (sub la (a + f) (an - t)) (sub lb (b + f) (bn - t))).A) (b + f + (bst (sub la (a + f) (an - t)) (sub lb (b + f) (bn - t))).B) ((bst (sub la (a + f) (an - t)) (sub lb (b + f) (bn - t))).N)).flatMap pf)] w63 := S63
            refine L_nil ?_
            refine hK34 _ _ ?_
            refine T_region ?_
            refine L_y (y_move rfl) rfl ?_
            refine L_y (y_fieldA 0 Try.underlying78 rfl sz3 rfl rfl rfl) rfl ?_
            refine L_y (y_ldc Try.underlying3 rfl rfl (((S64.blk 1 rfl).cell _).trans (by rfl))) rfl ?_
            refine L_y (y_move rfl) rfl ?_
            refine L_y (y_fieldA 2 Try.underlying78 rfl sz3 rfl rfl rfl) rfl ?_
            refine L_y (y_ldc Try.underlying3 rfl rfl (((S64.blk 1 rfl).cell _).trans (by rfl))) rfl ?_
            refine L_y (y_move rfl) rfl ?_
            refine L_y (y_build rfl (show _ = some #[Value.int .i64 ((a + f : Nat) : Int), Value.int .i64 ((a + f + (bst (sub la (a + f) (an - t)) (sub lb (b + f) (bn - t))).A : Nat) : Int), Value.int .i64 ((b + f : Nat) : Int), Value.int .i64 ((b + f + (bst (sub la (a + f) (an - t)) (sub lb (b + f) (bn - t))).B : Nat) : Int)] by rfl)) rfl ?_
            refine L_y (y_move rfl) rfl ?_
            refine L_y (y_fieldA 2 Try.underlying43 rfl sz3 rfl rfl rfl) rfl ?_
            refine L_y (y_ldc Try.underlying3 rfl rfl (((S64.blk 2 rfl).cell _).trans (by rfl))) rfl ?_
            refine L_y (y_add rfl rfl (i64e (k := a + f + (bst (sub la (a + f) (an - t)) (sub lb (b + f) (bn - t))).A + (bst (sub la (a + f) (an - t)) (sub lb (b + f) (bn - t))).N) (by omega))) rfl ?_
            refine L_y (y_fieldA 1 Try.underlying78 rfl sz3 rfl rfl rfl) rfl ?_
            refine L_y (y_ldc Try.underlying3 rfl rfl (((S64.blk 1 rfl).cell _).trans (by rfl))) rfl ?_
            refine L_y (y_move rfl) rfl ?_
            refine L_y (y_fieldA 2 Try.underlying43 rfl sz3 rfl rfl rfl) rfl ?_
            refine L_y (y_ldc Try.underlying3 rfl rfl (((S64.blk 2 rfl).cell _).trans (by rfl))) rfl ?_
            refine L_y (y_add rfl rfl (i64e (k := b + f + (bst (sub la (a + f) (an - t)) (sub lb (b + f) (bn - t))).B + (bst (sub la (a + f) (an - t)) (sub lb (b + f) (bn - t))).N) (by omega))) rfl ?_
            refine L_y (y_fieldA 3 Try.underlying78 rfl sz3 rfl rfl rfl) rfl ?_
            refine L_y (y_ldc Try.underlying3 rfl rfl (((S64.blk 1 rfl).cell _).trans (by rfl))) rfl ?_
            refine L_y (y_build rfl (show _ = some #[Value.int .i64 ((a + f + (bst (sub la (a + f) (an - t)) (sub lb (b + f) (bn - t))).A + (bst (sub la (a + f) (an - t)) (sub lb (b + f) (bn - t))).N : Nat) : Int), Value.int .i64 ((an - t : Nat) : Int), Value.int .i64 ((b + f + (bst (sub la (a + f) (an - t)) (sub lb (b + f) (bn - t))).B + (bst (sub la (a + f) (an - t)) (sub lb (b + f) (bn - t))).N : Nat) : Int), Value.int .i64 ((bn - t : Nat) : Int)] by rfl)) rfl ?_
            refine L_o (o_bsl [_, _, _, _, _, _, _, _] te79 zz78 S64 rfl rfl rfl rfl rfl rfl rfl rfl fun b65 w65 S65 => ?_)
            refine L_o (o_app te79 S65 0 rfl rfl rfl (by first | exact S65.row 0 rfl | exact S65.row 4 rfl | exact S65.row 5 rfl) (bf_one3 ⟨a + f, a + f + (bst (sub la (a + f) (an - t)) (sub lb (b + f) (bn - t))).A, b + f, b + f + (bst (sub la (a + f) (an - t)) (sub lb (b + f) (bn - t))).B⟩ ⟨a + f + (bst (sub la (a + f) (an - t)) (sub lb (b + f) (bn - t))).A + (bst (sub la (a + f) (an - t)) (sub lb (b + f) (bn - t))).N, an - t, b + f + (bst (sub la (a + f) (an - t)) (sub lb (b + f) (bn - t))).B + (bst (sub la (a + f) (an - t)) (sub lb (b + f) (bn - t))).N, bn - t⟩) rfl (by omega) (by omega) fun A66 c66 w66 S66 => ?_)
            have S66d := S66.drop (rs' := [_, _, _, _, _]) (.cons_cons _ (.cons_cons _ (.cons_cons _ (.cons_cons _ (.cons_cons _ (.cons _ (.refl _)))))))
            refine L_y (y_assign rfl) rfl ?_
            refine L_nil ?_
            have S67 : St w0 _ [_, _, _] w66 := S66d.sel [0, 3, 4] (by decide)
            have S68 := S67.rowc 0 rfl (n' := (qs ++ [(⟨a + f, a + f + (bst (sub la (a + f) (an - t)) (sub lb (b + f) (bn - t))).A, b + f, b + f + (bst (sub la (a + f) (an - t)) (sub lb (b + f) (bn - t))).B⟩ : BK), (⟨a + f + (bst (sub la (a + f) (an - t)) (sub lb (b + f) (bn - t))).A + (bst (sub la (a + f) (an - t)) (sub lb (b + f) (bn - t))).N, an - t, b + f + (bst (sub la (a + f) (an - t)) (sub lb (b + f) (bn - t))).B + (bst (sub la (a + f) (an - t)) (sub lb (b + f) (bn - t))).N, bn - t⟩ : BK)]).length) (xs' := (qs ++ [(⟨a + f, a + f + (bst (sub la (a + f) (an - t)) (sub lb (b + f) (bn - t))).A, b + f, b + f + (bst (sub la (a + f) (an - t)) (sub lb (b + f) (bn - t))).B⟩ : BK), (⟨a + f + (bst (sub la (a + f) (an - t)) (sub lb (b + f) (bn - t))).A + (bst (sub la (a + f) (an - t)) (sub lb (b + f) (bn - t))).N, an - t, b + f + (bst (sub la (a + f) (an - t)) (sub lb (b + f) (bn - t))).B + (bst (sub la (a + f) (an - t)) (sub lb (b + f) (bn - t))).N, bn - t⟩ : BK)]).flatMap bf) (len_two _ _ _) (bf_snoc2 qs (⟨a + f, a + f + (bst (sub la (a + f) (an - t)) (sub lb (b + f) (bn - t))).A, b + f, b + f + (bst (sub la (a + f) (an - t)) (sub lb (b + f) (bn - t))).B⟩ : BK) (⟨a + f + (bst (sub la (a + f) (an - t)) (sub lb (b + f) (bn - t))).A + (bst (sub la (a + f) (an - t)) (sub lb (b + f) (bn - t))).N, an - t, b + f + (bst (sub la (a + f) (an - t)) (sub lb (b + f) (bn - t))).B + (bst (sub la (a + f) (an - t)) (sub lb (b + f) (bn - t))).N, bn - t⟩ : BK))
            have hW2 := Wt_two qs (⟨a + f, a + f + (bst (sub la (a + f) (an - t)) (sub lb (b + f) (bn - t))).A, b + f, b + f + (bst (sub la (a + f) (an - t)) (sub lb (b + f) (bn - t))).B⟩ : BK) (⟨a + f + (bst (sub la (a + f) (an - t)) (sub lb (b + f) (bn - t))).A + (bst (sub la (a + f) (an - t)) (sub lb (b + f) (bn - t))).N, an - t, b + f + (bst (sub la (a + f) (an - t)) (sub lb (b + f) (bn - t))).B + (bst (sub la (a + f) (an - t)) (sub lb (b + f) (bn - t))).N, bn - t⟩ : BK)
            have hw1 : wt (⟨a + f, a + f + (bst (sub la (a + f) (an - t)) (sub lb (b + f) (bn - t))).A, b + f, b + f + (bst (sub la (a + f) (an - t)) (sub lb (b + f) (bn - t))).B⟩ : BK) = (a + f + (bst (sub la (a + f) (an - t)) (sub lb (b + f) (bn - t))).A - (a + f)) + (b + f + (bst (sub la (a + f) (an - t)) (sub lb (b + f) (bn - t))).B - (b + f)) + 1 := rfl
            have hw2 : wt (⟨a + f + (bst (sub la (a + f) (an - t)) (sub lb (b + f) (bn - t))).A + (bst (sub la (a + f) (an - t)) (sub lb (b + f) (bn - t))).N, an - t, b + f + (bst (sub la (a + f) (an - t)) (sub lb (b + f) (bn - t))).B + (bst (sub la (a + f) (an - t)) (sub lb (b + f) (bn - t))).N, bn - t⟩ : BK) = (an - t - (a + f + (bst (sub la (a + f) (an - t)) (sub lb (b + f) (bn - t))).A + (bst (sub la (a + f) (an - t)) (sub lb (b + f) (bn - t))).N)) + (bn - t - (b + f + (bst (sub la (a + f) (an - t)) (sub lb (b + f) (bn - t))).B + (bst (sub la (a + f) (an - t)) (sub lb (b + f) (bn - t))).N)) + 1 := rfl
            have hbk2 : ∀ z ∈ qs ++ [(⟨a + f, a + f + (bst (sub la (a + f) (an - t)) (sub lb (b + f) (bn - t))).A, b + f, b + f + (bst (sub la (a + f) (an - t)) (sub lb (b + f) (bn - t))).B⟩ : BK), (⟨a + f + (bst (sub la (a + f) (an - t)) (sub lb (b + f) (bn - t))).A + (bst (sub la (a + f) (an - t)) (sub lb (b + f) (bn - t))).N, an - t, b + f + (bst (sub la (a + f) (an - t)) (sub lb (b + f) (bn - t))).B + (bst (sub la (a + f) (an - t)) (sub lb (b + f) (bn - t))).N, bn - t⟩ : BK)], BKok la.length lb.length z := fun z hz => by
              rcases List.mem_append.1 hz with hz | hz
              · exact hbq z hz
              · simp only [List.mem_cons, List.not_mem_nil, or_false] at hz
                rcases hz with rfl | rfl
                · exact ⟨by show a + f ≤ a + f + _; omega, by show a + f + (bst (sub la (a + f) (an - t)) (sub lb (b + f) (bn - t))).A ≤ _; omega, by show b + f ≤ b + f + _; omega, by show b + f + (bst (sub la (a + f) (an - t)) (sub lb (b + f) (bn - t))).B ≤ _; omega⟩
                · exact ⟨by show a + f + (bst (sub la (a + f) (an - t)) (sub lb (b + f) (bn - t))).A + (bst (sub la (a + f) (an - t)) (sub lb (b + f) (bn - t))).N ≤ an - t; omega, by show an - t ≤ _; omega, by show b + f + (bst (sub la (a + f) (an - t)) (sub lb (b + f) (bn - t))).B + (bst (sub la (a + f) (an - t)) (sub lb (b + f) (bn - t))).N ≤ bn - t; omega, by show bn - t ≤ _; omega⟩
            have hfin : ((((ks ++ dg a b f) ++ dg (an - t) (bn - t) t) ++ dg (a + f + (bst (sub la (a + f) (an - t)) (sub lb (b + f) (bn - t))).A) (b + f + (bst (sub la (a + f) (an - t)) (sub lb (b + f) (bn - t))).B) (bst (sub la (a + f) (an - t)) (sub lb (b + f) (bn - t))).N) ++ (qs ++ [(⟨a + f, a + f + (bst (sub la (a + f) (an - t)) (sub lb (b + f) (bn - t))).A, b + f, b + f + (bst (sub la (a + f) (an - t)) (sub lb (b + f) (bn - t))).B⟩ : BK), (⟨a + f + (bst (sub la (a + f) (an - t)) (sub lb (b + f) (bn - t))).A + (bst (sub la (a + f) (an - t)) (sub lb (b + f) (bn - t))).N, an - t, b + f + (bst (sub la (a + f) (an - t)) (sub lb (b + f) (bn - t))).B + (bst (sub la (a + f) (an - t)) (sub lb (b + f) (bn - t))).N, bn - t⟩ : BK)]).flatMap (HB KM la lb)).Perm (ks ++ (HB KM la lb ⟨a, an, b, bn⟩ ++ (qs.flatMap (HB KM la lb)))) := by
              rw [flat_two, hDB]
              refine (perm_mid2 _ _ _ _ _).trans ?_
              rw [hsp]
              exact perm_one _ _ _ _ _
            refine ⟨A66, c66, qs ++ [(⟨a + f, a + f + (bst (sub la (a + f) (an - t)) (sub lb (b + f) (bn - t))).A, b + f, b + f + (bst (sub la (a + f) (an - t)) (sub lb (b + f) (bn - t))).B⟩ : BK), (⟨a + f + (bst (sub la (a + f) (an - t)) (sub lb (b + f) (bn - t))).A + (bst (sub la (a + f) (an - t)) (sub lb (b + f) (bn - t))).N, an - t, b + f + (bst (sub la (a + f) (an - t)) (sub lb (b + f) (bn - t))).B + (bst (sub la (a + f) (an - t)) (sub lb (b + f) (bn - t))).N, bn - t⟩ : BK)], _, _, _, by omega, ⟨⟨hbk2, by omega, perm_pop hfin hpm9⟩, S68⟩, ?_⟩
            exact (Sub.cons rfl (by first | rfl | exact congrArg (Value.slice _ · _) (len_two _ _ _)) (Sub.cons rfl rfl (Sub.cons rfl rfl (Sub.cons rfl rfl (Sub.cons rfl rfl (Sub.nil _))))))
    ·
      refine T_exit ?_
      refine hK4 _ _ ?_
      refine T_seq fun K35 hK35 => ?_
      have hp0 : ps = [] := List.eq_nil_of_length_eq_zero (by omega)
      subst hp0
      rw [List.flatMap_nil, List.append_nil] at hpm hpl
      refine T_region ?_
      refine L_y (y_ldc Try.underlying25 rfl rfl (((S5.blk 1 rfl).cell _).trans (by rfl))) rfl ?_
      refine L_y (y_assign rfl) rfl ?_
      refine L_nil ?_
      refine hK35 _ _ ?_
      refine T_ret ?_
      repeat (first | with_reducible refine up_then ?_ | with_reducible refine up_in ?_)
      refine ret1 rfl rfl ?_
      exact ⟨_, rfl, S5.like0, KA, ks, kc, rfl, S5.own 2 rfl, hpm⟩


set_option maxRecDepth 100000 in
theorem hdiff (A B : Option Addr) (n ca m cb : Nat) (la lb : List Int) (w0 : World) (ha : Rs w0 1 A n ca (iL la)) (hb : Rs w0 1 B m cb (iL lb)) (hn9 : n ≤ 800) (hm9 : m ≤ 800) :
    Calls Try.prog 13 #[.slice A n ca, .slice B m cb] w0 fun e w' => ∃ u, e = .returned u ∧ Like w0 w' ∧ ∃ A m c, u = .tuple #[.slice A m c, .int .i64 0] ∧ w'.ownsRow w0.heap.size 34 2 (.slice A m c) m ((DH KM la lb).flatMap pf) := by
  refine enter1 (env := [(0, .slice A n ca), (1, .slice B m cb)]) [.slice A n ca, .slice B m cb] Try.func13 rfl Try.ntmps13 rfl rfl ?_
  have hla := lenI ha; have hlb := lenI hb; have hcap := ha.cap; have hmax := ha.max; have hcap2 := hb.cap; have hmax2 := hb.max; have S0 := St.start w0 noM
  refine T_seq fun K1 hK1 => ?_
  refine T_region ?_
  refine L_y (y_assign rfl) rfl ?_
  refine L_y (y_assign rfl) rfl ?_
  refine L_nil ?_
  refine hK1 _ _ ?_
  refine T_seq fun K2 hK2 => ?_
  refine T_seq fun K3 hK3 => ?_
  refine T_region ?_
  refine L_y (y_move rfl) rfl ?_
  refine L_y (y_len Try.underlying22 rfl) rfl ?_
  refine L_y (y_gtr rfl rfl) rfl ?_
  refine L_y (y_move rfl) rfl ?_
  refine L_split 10 rfl (fun h10 => ?_) (fun h10 => ?_)
  ·
    exact absurd h10 (by omega)
  ·
    refine L_gyes rfl rfl ?_
    refine L_y (y_move rfl) rfl ?_
    refine L_gyes rfl rfl ?_
    refine L_y (y_len Try.underlying22 rfl) rfl ?_
    refine L_gyes rfl rfl ?_
    refine L_y (y_gtr rfl rfl) rfl ?_
    refine L_y ((by first | exact y_pickT rfl rfl | exact y_pickF rfl rfl)) rfl ?_
    refine L_nil ?_
    refine hK3 _ _ ?_
    refine T_cond rfl (fun h14 => ?_) (fun h14 => ?_)
    ·
      exact absurd h14 (by omega)
    ·
      refine T_skip ?_
      refine hK2 _ _ ?_
      refine T_seq fun K4 hK4 => ?_
      refine T_region ?_
      refine L_y (y_move rfl) rfl ?_
      refine L_y (y_move rfl) rfl ?_
      refine L_o (o_call Try.func32 rfl rfl (hrun A B n ca m cb la lb w0 (S0.rd ha) (S0.rd hb) hn9 hm9) rfl rfl ?_)
      rintro e2 w2 ⟨v2, rfl, l2, A2, ks, c2, rfl, O2, hpm⟩
      refine ⟨_, rfl, ?_⟩
      have S2 := S0.adopt l2 O2
      have hpl := hpm.length_eq
      have hdl := DHK_len la lb
      refine L_y (y_assign rfl) rfl ?_
      refine L_nil ?_
      refine hK4 _ _ ?_
      refine T_seq fun K5 hK5 => ?_
      refine T_region ?_
      refine L_y (y_move rfl) rfl ?_
      refine L_o (o_call Try.func33 rfl rfl (sortH _ ks.length _ ks w2 rfl (S2.get 0 rfl) (by omega)) rfl rfl ?_)
      rintro e3 w3 ⟨v3, rfl, zs, hzp, hzs, T3⟩
      refine ⟨_, rfl, ?_⟩
      have S3 := S2.turn 0 rfl T3
      have hze := asc_of (hzp.trans hpm) hzs ((DH_ok KM_ok la lb).2.imp fun {p q} h => h.1)
      subst hze
      refine L_nil ?_
      refine hK5 _ _ ?_
      refine T_seq fun K6 hK6 => ?_
      refine T_region ?_
      refine L_y (y_move rfl) rfl ?_
      refine L_y (y_assign rfl) rfl ?_
      refine L_y (y_assign rfl) rfl ?_
      refine L_nil ?_
      refine hK6 _ _ ?_
      refine T_ret ?_
      repeat (first | with_reducible refine up_then ?_ | with_reducible refine up_in ?_)
      refine ret2 rfl rfl rfl ?_
      exact ⟨_, rfl, S3.like0, _, _, _, rfl, S3.own 0 rfl⟩


set_option maxRecDepth 100000 in
theorem hdiffL (A B : Option Addr) (n ca m cb : Nat) (la lb : List Int) (w0 : World) (ha : Rs w0 1 A n ca (iL la)) (hb : Rs w0 1 B m cb (iL lb)) (hlong : 800 < n ∨ 800 < m) :
    Calls Try.prog 13 #[.slice A n ca, .slice B m cb] w0 fun e w' => ∃ u, e = .returned u ∧ Like w0 w' ∧ u = .tuple #[.slice none 0 0, .int .i64 3] := by
  refine enter1 (env := [(0, .slice A n ca), (1, .slice B m cb)]) [.slice A n ca, .slice B m cb] Try.func13 rfl Try.ntmps13 rfl rfl ?_
  have hla := lenI ha; have hlb := lenI hb; have hcap := ha.cap; have hmax := ha.max; have hcap2 := hb.cap; have hmax2 := hb.max; have S0 := St.start w0 noM
  refine T_seq fun K1 hK1 => ?_
  refine T_region ?_
  refine L_y (y_assign rfl) rfl ?_
  refine L_y (y_assign rfl) rfl ?_
  refine L_nil ?_
  refine hK1 _ _ ?_
  refine T_seq fun K2 hK2 => ?_
  refine T_seq fun K3 hK3 => ?_
  refine T_region ?_
  refine L_y (y_move rfl) rfl ?_
  refine L_y (y_len Try.underlying22 rfl) rfl ?_
  refine L_y (y_gtr rfl rfl) rfl ?_
  refine L_y (y_move rfl) rfl ?_
  refine L_split 10 rfl (fun h10 => ?_) (fun h10 => ?_)
  ·
    refine L_gno rfl rfl rfl ?_
    refine L_gno rfl rfl rfl ?_
    refine L_gno rfl rfl rfl ?_
    refine L_y ((by first | exact y_pickT rfl rfl | exact y_pickF rfl rfl)) rfl ?_
    refine L_nil ?_
    refine hK3 _ _ ?_
    refine T_true rfl ?_
    refine T_seq fun K4 hK4 => ?_
    refine T_region ?_
    refine L_y (y_assign rfl) rfl ?_
    refine L_y (y_assign rfl) rfl ?_
    refine L_nil ?_
    refine hK4 _ _ ?_
    refine T_ret ?_
    repeat (first | with_reducible refine up_then ?_ | with_reducible refine up_in ?_)
    refine ret2 rfl rfl rfl ?_
    exact ⟨_, rfl, S0.like0, rfl⟩
  ·
    refine L_gyes rfl rfl ?_
    refine L_y (y_move rfl) rfl ?_
    refine L_gyes rfl rfl ?_
    refine L_y (y_len Try.underlying22 rfl) rfl ?_
    refine L_gyes rfl rfl ?_
    refine L_y (y_gtr rfl rfl) rfl ?_
    refine L_y ((by first | exact y_pickT rfl rfl | exact y_pickF rfl rfl)) rfl ?_
    refine L_nil ?_
    refine hK3 _ _ ?_
    refine T_cond rfl (fun h14 => ?_) (fun h14 => ?_)
    ·
      refine T_seq fun K5 hK5 => ?_
      refine T_region ?_
      refine L_y (y_assign rfl) rfl ?_
      refine L_y (y_assign rfl) rfl ?_
      refine L_nil ?_
      refine hK5 _ _ ?_
      refine T_ret ?_
      repeat (first | with_reducible refine up_then ?_ | with_reducible refine up_in ?_)
      refine ret2 rfl rfl rfl ?_
      exact ⟨_, rfl, S0.like0, rfl⟩
    ·
      exact absurd h14 (by omega)
end Go.Proofs.Ytbbmkgpgiacdeaa


/-
  The document: Diff, by the histogram way.
-/
namespace Go.Proofs.Ytbbmkgpgiacdeaa
open Go.RowKit Zk Zx
set_option linter.unusedVariables false
set_option linter.unusedSimpArgs false

/-- The document's Diff, of lists that have less than N things. -/
def RH (N : Nat) : Prop := ∀ (A B : Option Addr) (n ca m cb : Nat) (la lb : List Int) (w0 : World), Rs w0 1 A n ca (iL la) → Rs w0 1 B m cb (iL lb) → n ≤ 800 → m ≤ 800 → n + m < N →
    Calls Try.prog 15 #[.slice A n ca, .slice B m cb] w0 fun e w' => ∃ u, e = .returned u ∧ Like w0 w' ∧ ∃ A m c, u = .slice A m c ∧ w'.ownsRow w0.heap.size 34 2 (.slice A m c) m ((DH KM la lb).flatMap pf)
theorem app_pf (l m : List (Nat × Nat)) : l.flatMap pf ++ m.flatMap pf = (l ++ m).flatMap pf := List.flatMap_append.symm
theorem splitH_mv (D : List Int → List Int → List (Nat × Nat)) (x y : List Int) (p : PT) (f : Nat) : mv f f (splitH D x y p) = mv f f (D (x.take p.A) (y.take p.B)) ++ (dg (f + p.A) (f + p.B) p.N ++ mv (f + p.A + p.N) (f + p.B + p.N) (D (x.drop (p.A + p.N)) (y.drop (p.B + p.N)))) := by
  unfold splitH
  rw [mv_app, mv_app, mv_mv, mv_dg, Nat.add_assoc f p.A, Nat.add_assoc f p.B]


set_option maxRecDepth 100000 in
theorem rmoved24 (A : Option Addr) (n ca : Nat) (l : List (Nat × Nat)) (i k : Nat) (w0 : World) (hl : Rs w0 2 A n ca (l.flatMap pf)) (hn9 : n ≤ 1048576) (hi9 : i ≤ 1048576) (hk9 : k ≤ 1048576) (hb : ∀ p ∈ l, p.1 ≤ 1048576 ∧ p.2 ≤ 1048576) :
    Calls Try.prog 36 #[.slice A n ca, .int .i64 (i : Int), .int .i64 (k : Int)] w0 fun e w' => ∃ u, e = .returned u ∧ Like w0 w' ∧ ∃ A m c, u = .slice A m c ∧ w'.ownsRow w0.heap.size 34 2 (.slice A m c) m ((mv i k l).flatMap pf) := by
  refine enter1 (env := [(0, .slice A n ca), (1, .int .i64 (i : Int)), (2, .int .i64 (k : Int))]) [.slice A n ca, .int .i64 (i : Int), .int .i64 (k : Int)] Try.func36 rfl Try.ntmps36 rfl rfl ?_
  have hln := pf_n hl; have S0 := St.start w0 noM
  refine T_seq fun K1 hK1 => ?_
  refine T_region ?_
  refine L_y (y_assign rfl) rfl ?_
  refine L_nil ?_
  refine hK1 _ _ ?_
  refine T_seq fun K2 hK2 => ?_
  refine T_region ?_
  have S1 := S0.nilrow 34 2
  refine L_y (y_assign rfl) rfl ?_
  refine L_nil ?_
  refine hK2 _ _ ?_
  refine T_seq fun K3 hK3 => ?_
  refine T_seq fun K4 hK4 => ?_
  refine T_region ?_
  refine L_y (y_assign rfl) rfl ?_
  refine L_nil ?_
  refine hK4 _ _ ?_
  refine T_block ?_
  refine T_loop3 [(0, _), (1, _), (2, _)] (fun (j : Nat) (A1 : Option Addr) (c1 : Nat) => [(8, .int .i64 (j : Int)), (7, .slice A1 (mv i k (l.take j)).length c1)]) (fun (j : Nat) (A1 : Option Addr) (c1 : Nat) => n - j) (fun (j : Nat) (A1 : Option Addr) (c1 : Nat) (w : World) => j ≤ n ∧ St w0 noM [row 34 2 A1 (mv i k (l.take j)).length c1 ((mv i k (l.take j)).flatMap pf)] w) 0 none 0 (Sub.cons rfl (by first | rfl | exact congrArg (Value.int _) (by omega)) (Sub.cons rfl (by first | rfl | exact congrArg (Value.int _) (by omega)) (Sub.nil _))) (Sub.cons rfl rfl (Sub.cons rfl rfl (Sub.cons rfl rfl (Sub.nil _)))) ?_ ?_
  ·
    exact ⟨Nat.zero_le _, S1⟩
  ·
    intro j A1 c1 w2 hrel
    obtain ⟨hj, S2⟩ := hrel
    have hml : (mv i k (l.take j)).length = j := by rw [mv_len, List.length_take]; omega
    refine T_seq fun K5 hK5 => ?_
    refine T_seq fun K6 hK6 => ?_
    refine T_region ?_
    refine L_y (y_move rfl) rfl ?_
    refine L_y (y_move rfl) rfl ?_
    refine L_y (y_len Try.underlying25 rfl) rfl ?_
    refine L_y (y_lss rfl rfl) rfl ?_
    refine L_nil ?_
    refine hK6 _ _ ?_
    refine T_cond rfl (fun h12 => ?_) (fun h12 => ?_)
    ·
      obtain ⟨p, hp⟩ : ∃ p, l[j]? = some p := ⟨_, List.getElem?_eq_getElem (by omega)⟩
      have hpb := hb p (List.mem_of_getElem? hp)
      refine T_skip ?_
      refine hK5 _ _ ?_
      refine T_seq fun K7 hK7 => ?_
      refine T_block ?_
      refine T_zed [0, 1, 2, 3, 4, 5, 6, 7, 8, 9, 10, 11, 12, 13, 14, 15, 16] 17 [(0, 1), (1, 1), (2, 1), (3, 1), (4, 1), (5, 1), (6, 1), (7, 1), (8, 1), (9, 1), (10, 1), (11, 1), (12, 1), (13, 1), (14, 1), (15, 1), (16, 2), (17, 3), (18, 3)] hmix (by kernel_rfl) fun w3 l3 => ?_
      have S3 := S2.like l3
      refine ZA_B (Like w3) (Like.refl _) ?_
      refine ZB_y rfl (y_move rfl) rfl ?_
      refine ZB_y rfl (y_move rfl) rfl ?_
      refine ZB_y rfl (y_move rfl) rfl ?_
      refine ZB_y rfl (y_idx Try.underlying25 sz34 rfl rfl (S3.rd hl) (Nt.mk (by omega) : Nt _ (j)) (by omega)) rfl ?_
      refine ZB_y rfl (y_fieldR 0 Try.underlying34 rfl sz3 rfl rfl (S3.rd hl) (by omega) rfl) rfl ?_
      refine ZB_y rfl (y_ldf Try.underlying3 rfl rfl (S3.rd hl) (by omega) (pf_get _ _ _ hp).1) rfl ?_
      refine ZB_y rfl (y_move rfl) rfl ?_
      refine ZB_y rfl (y_add rfl rfl (i64e (k := p.1 + i) (by omega))) rfl ?_
      refine ZB_y rfl (y_move rfl) rfl ?_
      refine ZB_y rfl (y_move rfl) rfl ?_
      refine ZB_y rfl (y_idx Try.underlying25 sz34 rfl rfl (S3.rd hl) (Nt.mk (by omega) : Nt _ (j)) (by omega)) rfl ?_
      refine ZB_y rfl (y_fieldR 1 Try.underlying34 rfl sz3 rfl rfl (S3.rd hl) (by omega) rfl) rfl ?_
      refine ZB_y rfl (y_ldf Try.underlying3 rfl rfl (S3.rd hl) (by omega) (pf_get _ _ _ hp).2) rfl ?_
      refine ZB_y rfl (y_move rfl) rfl ?_
      refine ZB_y rfl (y_add rfl rfl (i64e (k := p.2 + k) (by omega))) rfl ?_
      refine ZB_y rfl (y_build rfl (show _ = some #[Value.int .i64 ((p.1 + i : Nat) : Int), Value.int .i64 ((p.2 + k : Nat) : Int)] by kernel_rfl)) rfl ?_
      refine ZB_o rfl (o_bslL [_, _] te25 zz34 S3 rfl rfl rfl rfl rfl rfl rfl rfl fun b4 w4 l4 S4 => ?_)
      have q4 := l4
      refine ⟨q4, ?_⟩
      refine ZB_c rfl (o_app te25 S4 0 rfl rfl rfl (by first | exact S4.row 0 rfl | exact S4.row 1 rfl) (by intro u hu; simp at hu; rcases hu with rfl | rfl <;> rfl) rfl (by omega) (by omega) fun A5 c5 w5 S5 => ?_)
      have S5d := S5.drop (rs' := [_]) (.cons_cons _ (.cons _ (.refl _)))
      refine ZA_oy rfl (y_assign rfl) rfl ?_
      refine ZA_nil ?_
      refine hK7 _ _ ?_
      refine T_region ?_
      refine L_y (y_move rfl) rfl ?_
      refine L_y (y_add rfl rfl (i64w (by omega))) rfl ?_
      refine L_y (y_assign rfl) rfl ?_
      refine L_nil ?_
      have hml2 : (mv i k (l.take (j + 1))).length = j + 1 := by rw [mv_len, List.length_take]; omega
      have S6 := S5d.rowc 0 rfl (n' := (mv i k (l.take (j + 1))).length) (xs' := (mv i k (l.take (j + 1))).flatMap pf) (by rw [hml, hml2]) (mv_snoc2 hp i k)
      refine ⟨j + 1, _, _, by omega, ⟨by omega, S6⟩, ?_⟩
      exact (Sub.cons rfl (by first | rfl | exact congrArg (Value.int _) (by omega)) (Sub.cons rfl (by rw [hml2, hml]) (Sub.cons rfl rfl (Sub.cons rfl rfl (Sub.cons rfl rfl (Sub.nil _))))))
    ·
      refine T_exit ?_
      refine hK3 _ _ ?_
      refine T_seq fun K8 hK8 => ?_
      refine T_region ?_
      refine L_y (y_move rfl) rfl ?_
      refine L_y (y_assign rfl) rfl ?_
      refine L_nil ?_
      refine hK8 _ _ ?_
      refine T_ret ?_
      repeat (first | with_reducible refine up_then ?_ | with_reducible refine up_in ?_)
      refine ret1 rfl rfl ?_
      have hje : j = l.length := by omega
      subst hje
      refine ⟨_, rfl, S2.like0, _, _, _, rfl, ?_⟩
      have hown := S2.own 0 rfl
      rw [List.take_length] at hown ⊢
      exact hown


set_option maxRecDepth 100000 in
set_option maxHeartbeats 2000000 in
theorem rhd_step {N : Nat} (ih : RH N) (A B : Option Addr) (n ca m cb : Nat) (la lb : List Int) (w0 : World) (ha : Rs w0 1 A n ca (iL la)) (hb : Rs w0 1 B m cb (iL lb)) (hn9 : n ≤ 800) (hm9 : m ≤ 800) (hN : n + m < N + 1) :
    Calls Try.prog 15 #[.slice A n ca, .slice B m cb] w0 fun e w' => ∃ u, e = .returned u ∧ Like w0 w' ∧ ∃ A m c, u = .slice A m c ∧ w'.ownsRow w0.heap.size 34 2 (.slice A m c) m ((DH KM la lb).flatMap pf) := by
  refine enter1 (env := [(0, .slice A n ca), (1, .slice B m cb)]) [.slice A n ca, .slice B m cb] Try.func15 rfl Try.ntmps15 rfl rfl ?_
  have hla := lenI ha; have hlb := lenI hb; have hcap := ha.cap; have hmax := ha.max; have hcap2 := hb.cap; have hmax2 := hb.max; have S0 := St.start w0 noM
  refine T_seq fun K1 hK1 => ?_
  refine T_region ?_
  refine L_y (y_assign rfl) rfl ?_
  refine L_nil ?_
  refine hK1 _ _ ?_
  refine T_seq fun K2 hK2 => ?_
  refine T_region ?_
  refine L_y (y_move rfl) rfl ?_
  refine L_y (y_move rfl) rfl ?_
  refine L_o (o_call Try.func31 rfl rfl (rends A B n ca m cb la lb w0 (S0.rd ha) (S0.rd hb)) rfl rfl ?_)
  rintro e1 w1 ⟨v1, rfl, l1, rfl⟩
  refine ⟨_, rfl, ?_⟩
  have S1 := S0.like l1
  have hpl := pre_le la lb
  have hsl := suf_le la lb
  have hDE := DH_eq KM la lb
  generalize hf : pre la lb = f at hpl hsl hDE
  generalize ht : suf la lb = t at hsl hDE
  rw [hla, hlb] at hDE
  rw [show mid la f t = (sub la f (n - t)) by rw [← hla]; rfl, show mid lb f t = (sub lb f (m - t)) by rw [← hlb]; rfl] at hDE
  have hXl : (sub la f (n - t)).length = n - t - f := sub_len (by omega)
  have hYl : (sub lb f (m - t)).length = m - t - f := sub_len (by omega)
  have hcore : (coreH KM (DH KM) (sub la f (n - t)) (sub lb f (m - t))).length ≤ (sub la f (n - t)).length := by have := (coreH_ok KM_ok (DH_ok KM_ok) (sub la f (n - t)) (sub lb f (m - t))).len; omega
  refine L_y (y_move rfl) rfl ?_
  refine L_y (y_extract rfl rfl) rfl ?_
  refine L_y (y_extract rfl rfl) rfl ?_
  refine L_y (y_assign rfl) rfl ?_
  refine L_y (y_assign rfl) rfl ?_
  refine L_nil ?_
  refine hK2 _ _ ?_
  refine T_seq fun K3 hK3 => ?_
  refine T_region ?_
  have S2 := S1.nilrow 34 2
  refine L_y (y_assign rfl) rfl ?_
  refine L_nil ?_
  refine hK3 _ _ ?_
  refine T_seq fun K4 hK4 => ?_
  refine T_seq fun K5 hK5 => ?_
  refine T_region ?_
  refine L_y (y_assign rfl) rfl ?_
  refine L_nil ?_
  refine hK5 _ _ ?_
  refine T_block ?_
  refine T_loop3 [(0, _), (1, _), (5, _), (6, _)] (fun (j : Nat) (A1 : Option Addr) (c1 : Nat) => [(8, .int .i64 (j : Int)), (7, .slice A1 (dg 0 0 j).length c1)]) (fun (j : Nat) (A1 : Option Addr) (c1 : Nat) => f - j) (fun (j : Nat) (A1 : Option Addr) (c1 : Nat) (w : World) => j ≤ f ∧ St w0 noM [row 34 2 A1 (dg 0 0 j).length c1 ((dg 0 0 j).flatMap pf)] w) 0 none 0 (Sub.cons rfl (by first | rfl | exact congrArg (Value.int _) (by omega)) (Sub.cons rfl (by first | rfl | exact congrArg (Value.int _) (by omega)) (Sub.nil _))) (Sub.cons rfl rfl (Sub.cons rfl rfl (Sub.cons rfl rfl (Sub.cons rfl rfl (Sub.nil _))))) ?_ ?_
  ·
    exact ⟨Nat.zero_le _, S2⟩
  ·
    intro j A1 c1 w3 hrel
    obtain ⟨hj, S3⟩ := hrel
    have hdl := dg_len 0 0 j
    refine T_seq fun K6 hK6 => ?_
    refine T_seq fun K7 hK7 => ?_
    refine T_region ?_
    refine L_y (y_move rfl) rfl ?_
    refine L_y (y_move rfl) rfl ?_
    refine L_y (y_lss rfl rfl) rfl ?_
    refine L_nil ?_
    refine hK7 _ _ ?_
    refine T_cond rfl (fun h22 => ?_) (fun h22 => ?_)
    ·
      refine T_skip ?_
      refine hK6 _ _ ?_
      refine T_seq fun K8 hK8 => ?_
      refine T_block ?_
      refine T_region ?_
      refine L_y (y_move rfl) rfl ?_
      refine L_y (y_move rfl) rfl ?_
      refine L_y (y_move rfl) rfl ?_
      refine L_y (y_build rfl (show _ = some #[Value.int .i64 (j : Int), Value.int .i64 (j : Int)] by kernel_rfl)) rfl ?_
      refine L_o (o_bsl [_, _] te25 zz34 S3 rfl rfl rfl rfl rfl rfl rfl rfl fun b4 w4 S4 => ?_)
      refine L_o (o_app te25 S4 0 rfl rfl rfl (by first | exact S4.row 0 rfl | exact S4.row 1 rfl) (by intro u hu; simp at hu; rcases hu with rfl | rfl <;> rfl) rfl (by omega) (by omega) fun A5 c5 w5 S5 => ?_)
      have S5d := S5.drop (rs' := [_]) (.cons_cons _ (.cons _ (.refl _)))
      refine L_y (y_assign rfl) rfl ?_
      refine L_nil ?_
      refine hK8 _ _ ?_
      refine T_region ?_
      refine L_y (y_move rfl) rfl ?_
      refine L_y (y_add rfl rfl (i64w (by omega))) rfl ?_
      refine L_y (y_assign rfl) rfl ?_
      refine L_nil ?_
      have S6 := S5d.rowc 0 rfl (n' := (dg 0 0 (j + 1)).length) (xs' := (dg 0 0 (j + 1)).flatMap pf) (by rw [dg_len, dg_len]) (dg_snoc3 j)
      refine ⟨j + 1, _, _, by omega, ⟨by omega, S6⟩, ?_⟩
      exact (Sub.cons rfl (by first | rfl | exact congrArg (Value.int _) (by omega)) (Sub.cons rfl (by rw [dg_len, dg_len]) (Sub.cons rfl rfl (Sub.cons rfl rfl (Sub.cons rfl rfl (Sub.cons rfl rfl (Sub.nil _)))))))
    ·
      refine T_exit ?_
      refine hK4 _ _ ?_
      refine T_seq fun K9 hK9 => ?_
      obtain rfl : f = j := by omega
      refine T_drawnL [(0, true), (1, true), (2, true), (3, true), (4, true), (5, true), (6, true), (7, true), (8, true), (9, true), (10, true), (11, true), (12, true), (13, true), (14, true), (15, true)] hmix (by kernel_rfl) fun w7 l7 => ?_
      have S7 := S3.like l7
      refine DL_y rfl (y_move rfl) rfl ?_
      refine DL_y rfl (y_move rfl) rfl ?_
      refine DL_y rfl (y_move rfl) rfl ?_
      refine DL_y rfl (y_len Try.underlying22 rfl) rfl ?_
      refine DL_y rfl (y_move rfl) rfl ?_
      refine DL_y rfl (y_sub rfl rfl (i64e (k := n - t) (by omega))) rfl ?_
      refine DL_y rfl (y_slice Try.underlying22 sz3 rfl rfl rfl inferInstance inferInstance (by omega) (by omega)) rfl ?_
      refine DL_y rfl (y_move rfl) rfl ?_
      refine DL_y rfl (y_move rfl) rfl ?_
      refine DL_y rfl (y_move rfl) rfl ?_
      refine DL_y rfl (y_len Try.underlying22 rfl) rfl ?_
      refine DL_y rfl (y_move rfl) rfl ?_
      refine DL_y rfl (y_sub rfl rfl (i64e (k := m - t) (by omega))) rfl ?_
      refine DL_y rfl (y_slice Try.underlying22 sz3 rfl rfl rfl inferInstance inferInstance (by omega) (by omega)) rfl ?_
      refine DL_y rfl (y_assign rfl) rfl ?_
      refine DL_y rfl (y_assign rfl) rfl ?_
      refine DL_nil ?_
      refine hK9 _ _ ?_
      refine T_seq fun K10 hK10 => ?_
      refine T_region ?_
      refine L_y (y_move rfl) rfl ?_
      refine L_y (y_move rfl) rfl ?_
      refine L_o (o_call Try.func22 rfl rfl (rbest24 _ _ _ _ _ _ (sub la f (n - t)) (sub lb f (m - t)) w7 (cutI (S7.rd ha) (i := f) (u := n - t) (by omega) (by omega)) (cutI (S7.rd hb) (i := f) (u := m - t) (by omega) (by omega)) (by omega) (by omega)) rfl rfl ?_)
      rintro e8 w8 ⟨v8, rfl, l8, rfl⟩
      refine ⟨_, rfl, ?_⟩
      have S8 := S7.like l8
      have hbo := bst_ok (sub la f (n - t)) (sub lb f (m - t))
      refine L_o (o_alloc zz44 S8 rfl fun b9 w9 hb9 S9 => ?_)
      refine L_o (o_stW S9 1 rfl rfl rfl sz44 (by rfl) (ptf_one1 _) fun w10 S10 => ?_)
      refine L_nil ?_
      refine hK10 _ _ ?_
      refine T_seq fun K11 hK11 => ?_
      refine T_block ?_
      refine T_seq fun K12 hK12 => ?_
      refine T_region ?_
      refine L_y (y_fieldA 2 Try.underlying44 rfl sz3 rfl rfl rfl) rfl ?_
      refine L_y (y_ldc Try.underlying3 rfl rfl (((S10.blk 1 rfl).cell _).trans (by rfl))) rfl ?_
      refine L_y (y_eql rfl rfl) rfl ?_
      refine L_y (y_assign rfl) rfl ?_
      refine L_nil ?_
      refine hK12 _ _ ?_
      refine T_cond rfl (fun h116 => ?_) (fun h116 => ?_)
      ·
        have hN0 : (bst (sub la f (n - t)) (sub lb f (m - t))).N = 0 := by omega
        refine T_skip ?_
        refine hK11 _ _ ?_
        refine T_seq fun K13 hK13 => ?_
        refine T_seq fun K14 hK14 => ?_
        have hce : coreH KM (DH KM) (sub la f (n - t)) (sub lb f (m - t)) = [] := by unfold coreH; rw [if_pos hN0]
        have S11 := S10.rowc 0 rfl (n' := (dg 0 0 f ++ mv f f (coreH KM (DH KM) (sub la f (n - t)) (sub lb f (m - t)))).length) (xs' := (dg 0 0 f ++ mv f f (coreH KM (DH KM) (sub la f (n - t)) (sub lb f (m - t)))).flatMap pf) (by rw [hce, mv_nil, List.append_nil]) (by rw [hce, mv_nil, List.append_nil])
        have S12 : St w0 _ [_] w10 := S11.sel [0] (by decide)
        refine T_region ?_
        refine L_y (y_move rfl) rfl ?_
        refine L_y (y_assign rfl) rfl ?_
        refine L_nil ?_
        refine hK14 _ _ ?_
        refine T_block ?_
        refine T_loop3 [(0, _), (1, _)] (fun (j : Nat) (A1 : Option Addr) (c1 : Nat) => [(13, .int .i64 ((t : Int) - (j : Int))), (7, .slice A1 ((dg 0 0 f ++ mv f f (coreH KM (DH KM) (sub la f (n - t)) (sub lb f (m - t)))) ++ dg (n - t) (m - t) j).length c1)]) (fun (j : Nat) (A1 : Option Addr) (c1 : Nat) => t - j) (fun (j : Nat) (A1 : Option Addr) (c1 : Nat) (w : World) => j ≤ t ∧ St w0 noM [row 34 2 A1 ((dg 0 0 f ++ mv f f (coreH KM (DH KM) (sub la f (n - t)) (sub lb f (m - t)))) ++ dg (n - t) (m - t) j).length c1 (((dg 0 0 f ++ mv f f (coreH KM (DH KM) (sub la f (n - t)) (sub lb f (m - t)))) ++ dg (n - t) (m - t) j).flatMap pf)] w) 0 _ _ (Sub.cons rfl (by first | rfl | exact congrArg (Value.int _) (by omega) | (refine congrArg (Value.slice _ · _) ?_; rw [hce]; simp only [List.length_append, mv_len, dg_len, mv_nil, List.length_nil]; first | done | omega)) (Sub.cons rfl (by first | rfl | exact congrArg (Value.int _) (by omega) | (refine congrArg (Value.slice _ · _) ?_; rw [hce]; simp only [List.length_append, mv_len, dg_len, mv_nil, List.length_nil]; first | done | omega)) (Sub.nil _))) (Sub.cons rfl rfl (Sub.cons rfl rfl (Sub.nil _))) ?_ ?_
        ·
          exact ⟨Nat.zero_le _, by rw [show dg (n - t) (m - t) 0 = [] from rfl, List.append_nil]; exact S12⟩
        ·
          intro j A1 c1 w13 hrel
          obtain ⟨hj, S13⟩ := hrel
          have hdl := dg_len (n - t) (m - t) j
          have hol3 : ((dg 0 0 f ++ mv f f (coreH KM (DH KM) (sub la f (n - t)) (sub lb f (m - t)))) ++ dg (n - t) (m - t) j).length = f + (coreH KM (DH KM) (sub la f (n - t)) (sub lb f (m - t))).length + j := by simp only [List.length_append, mv_len, dg_len]
          refine T_seq fun K15 hK15 => ?_
          refine T_seq fun K16 hK16 => ?_
          refine T_region ?_
          refine L_y (y_move rfl) rfl ?_
          refine L_y (y_gtr rfl rfl) rfl ?_
          refine L_nil ?_
          refine hK16 _ _ ?_
          refine T_cond rfl (fun h134 => ?_) (fun h134 => ?_)
          ·
            refine T_skip ?_
            refine hK15 _ _ ?_
            refine T_seq fun K17 hK17 => ?_
            refine T_block ?_
            refine T_region ?_
            refine L_y (y_move rfl) rfl ?_
            refine L_y (y_move rfl) rfl ?_
            refine L_y (y_len Try.underlying22 rfl) rfl ?_
            refine L_y (y_move rfl) rfl ?_
            refine L_y (y_sub rfl rfl (i64e (k := n - t + j) (by omega))) rfl ?_
            refine L_y (y_move rfl) rfl ?_
            refine L_y (y_len Try.underlying22 rfl) rfl ?_
            refine L_y (y_move rfl) rfl ?_
            refine L_y (y_sub rfl rfl (i64e (k := m - t + j) (by omega))) rfl ?_
            refine L_y (y_build rfl (show _ = some #[Value.int .i64 ((n - t + j : Nat) : Int), Value.int .i64 ((m - t + j : Nat) : Int)] by kernel_rfl)) rfl ?_
            refine L_o (o_bsl [_, _] te25 zz34 S13 rfl rfl rfl rfl rfl rfl rfl rfl fun b14 w14 S14 => ?_)
            refine L_o (o_app te25 S14 0 rfl rfl rfl (by first | exact S14.row 0 rfl | exact S14.row 1 rfl) (by intro u hu; simp at hu; rcases hu with rfl | rfl <;> rfl) rfl (by omega) (by omega) fun A15 c15 w15 S15 => ?_)
            have S15d := S15.drop (rs' := [_]) (.cons_cons _ (.cons _ (.refl _)))
            refine L_y (y_assign rfl) rfl ?_
            refine L_nil ?_
            refine hK17 _ _ ?_
            refine T_region ?_
            refine L_y (y_move rfl) rfl ?_
            refine L_y (y_sub rfl rfl (i64w (by omega))) rfl ?_
            refine L_y (y_assign rfl) rfl ?_
            refine L_nil ?_
            have S16 := S15d.rowc 0 rfl (n' := ((dg 0 0 f ++ mv f f (coreH KM (DH KM) (sub la f (n - t)) (sub lb f (m - t)))) ++ dg (n - t) (m - t) (j + 1)).length) (xs' := ((dg 0 0 f ++ mv f f (coreH KM (DH KM) (sub la f (n - t)) (sub lb f (m - t)))) ++ dg (n - t) (m - t) (j + 1)).flatMap pf) (by rw [List.length_append, dg_len, List.length_append (bs := dg _ _ (j + 1)), dg_len]; omega) (dg_snoc2 _ _ _ _)
            refine ⟨j + 1, _, _, by omega, ⟨by omega, S16⟩, ?_⟩
            exact (Sub.cons rfl (by first | rfl | exact congrArg (Value.int _) (by omega)) (Sub.cons rfl (by simp only [List.length_append, mv_len, dg_len]; rfl) (Sub.cons rfl rfl (Sub.cons rfl rfl (Sub.nil _)))))
          ·
            refine T_exit ?_
            refine hK13 _ _ ?_
            refine T_seq fun K18 hK18 => ?_
            refine T_region ?_
            refine L_y (y_move rfl) rfl ?_
            refine L_y (y_assign rfl) rfl ?_
            refine L_nil ?_
            refine hK18 _ _ ?_
            refine T_ret ?_
            repeat (first | with_reducible refine up_then ?_ | with_reducible refine up_in ?_)
            refine ret1 rfl rfl ?_
            have hje : j = t := by omega
            subst hje
            refine ⟨_, rfl, S13.like0, _, _, _, rfl, ?_⟩
            have hown := S13.own 0 rfl
            rw [← hDE] at hown ⊢
            exact hown
      ·
        have hN0 : ¬ (bst (sub la f (n - t)) (sub lb f (m - t))).N = 0 := by omega
        obtain ⟨hbo1, hbo2, _⟩ := hbo hN0
        refine T_seq fun K19 hK19 => ?_
        refine T_region ?_
        refine L_y (y_fieldA 3 Try.underlying44 rfl sz3 rfl rfl rfl) rfl ?_
        refine L_y (y_ldc Try.underlying3 rfl rfl (((S10.blk 1 rfl).cell _).trans (by rfl))) rfl ?_
        refine L_y (y_gtr rfl rfl) rfl ?_
        refine L_y (y_assign rfl) rfl ?_
        refine L_nil ?_
        refine hK19 _ _ ?_
        refine T_cond rfl (fun h120 => ?_) (fun h120 => ?_)
        ·
          refine T_region ?_
          refine L_y (y_move rfl) rfl ?_
          refine L_y (y_move rfl) rfl ?_
          refine L_y (y_move rfl) rfl ?_
          refine L_o (o_call Try.func37 rfl rfl (rdiff _ _ _ _ _ _ (sub la f (n - t)) (sub lb f (m - t)) w10 (cutI (S10.rd ha) (i := f) (u := n - t) (by omega) (by omega)) (cutI (S10.rd hb) (i := f) (u := m - t) (by omega) (by omega)) (by omega) (by omega)) rfl rfl ?_)
          rintro e17 w17 ⟨v17, rfl, l17, A17, n17, c17, rfl, O17⟩
          refine ⟨_, rfl, ?_⟩
          have S17 := S10.adopt l17 O17
          have hdn : n17 = (KM (sub la f (n - t)) (sub lb f (m - t))).length := pf_n (S17.row 2 rfl)
          have hKl : (KM (sub la f (n - t)) (sub lb f (m - t))).length ≤ (sub la f (n - t)).length := by have := (KM_ok (sub la f (n - t)) (sub lb f (m - t))).len; omega
          refine L_y (y_move rfl) rfl ?_
          refine L_y (y_move rfl) rfl ?_
          refine L_o (o_call Try.func36 rfl rfl (rmoved24 _ _ _ (KM (sub la f (n - t)) (sub lb f (m - t))) f f w17 (S17.row 2 rfl) (by omega) (by omega) (by omega) (fun p hp => by have := (KM_ok (sub la f (n - t)) (sub lb f (m - t))).1 p hp; omega)) rfl rfl ?_)
          rintro e18 w18 ⟨v18, rfl, l18, A18, n18, c18, rfl, O18⟩
          refine ⟨_, rfl, ?_⟩
          have S18 := S17.adopt l18 O18
          have hmn : n18 = (mv f f (KM (sub la f (n - t)) (sub lb f (m - t)))).length := pf_n (S18.row 3 rfl)
          have hmn2 := hmn
          rw [mv_len] at hmn2
          refine L_o (o_app te25 S18 0 rfl rfl rfl (S18.row 3 rfl) (fun u hu => pf_one _ u hu) rfl (by omega) (by omega) fun A19 c19 w19 S19 => ?_)
          refine L_y (y_assign rfl) rfl ?_
          refine L_nil ?_
          refine hK11 _ _ ?_
          refine T_seq fun K20 hK20 => ?_
          refine T_seq fun K21 hK21 => ?_
          have hce : coreH KM (DH KM) (sub la f (n - t)) (sub lb f (m - t)) = KM (sub la f (n - t)) (sub lb f (m - t)) := by unfold coreH; rw [if_neg hN0, if_pos (by omega)]
          have S20 := S19.rowc 0 rfl (n' := (dg 0 0 f ++ mv f f (coreH KM (DH KM) (sub la f (n - t)) (sub lb f (m - t)))).length) (xs' := (dg 0 0 f ++ mv f f (coreH KM (DH KM) (sub la f (n - t)) (sub lb f (m - t)))).flatMap pf) (by rw [hce]; simp only [List.length_append, mv_len, dg_len] at hmn ⊢; omega) (by rw [hce, List.flatMap_append])
          have S21 : St w0 _ [_] w19 := S20.sel [0] (by decide)
          refine T_region ?_
          refine L_y (y_move rfl) rfl ?_
          refine L_y (y_assign rfl) rfl ?_
          refine L_nil ?_
          refine hK21 _ _ ?_
          refine T_block ?_
          refine T_loop3 [(0, _), (1, _)] (fun (j : Nat) (A1 : Option Addr) (c1 : Nat) => [(13, .int .i64 ((t : Int) - (j : Int))), (7, .slice A1 ((dg 0 0 f ++ mv f f (coreH KM (DH KM) (sub la f (n - t)) (sub lb f (m - t)))) ++ dg (n - t) (m - t) j).length c1)]) (fun (j : Nat) (A1 : Option Addr) (c1 : Nat) => t - j) (fun (j : Nat) (A1 : Option Addr) (c1 : Nat) (w : World) => j ≤ t ∧ St w0 noM [row 34 2 A1 ((dg 0 0 f ++ mv f f (coreH KM (DH KM) (sub la f (n - t)) (sub lb f (m - t)))) ++ dg (n - t) (m - t) j).length c1 (((dg 0 0 f ++ mv f f (coreH KM (DH KM) (sub la f (n - t)) (sub lb f (m - t)))) ++ dg (n - t) (m - t) j).flatMap pf)] w) 0 _ _ (Sub.cons rfl (by first | rfl | exact congrArg (Value.int _) (by omega) | (refine congrArg (Value.slice _ · _) ?_; rw [hce]; simp only [List.length_append, mv_len, dg_len, mv_nil, List.length_nil]; first | done | omega)) (Sub.cons rfl (by first | rfl | exact congrArg (Value.int _) (by omega) | (refine congrArg (Value.slice _ · _) ?_; rw [hce]; simp only [List.length_append, mv_len, dg_len, mv_nil, List.length_nil]; first | done | omega)) (Sub.nil _))) (Sub.cons rfl rfl (Sub.cons rfl rfl (Sub.nil _))) ?_ ?_
          ·
            exact ⟨Nat.zero_le _, by rw [show dg (n - t) (m - t) 0 = [] from rfl, List.append_nil]; exact S21⟩
          ·
            intro j A1 c1 w22 hrel
            obtain ⟨hj, S22⟩ := hrel
            have hdl := dg_len (n - t) (m - t) j
            have hol3 : ((dg 0 0 f ++ mv f f (coreH KM (DH KM) (sub la f (n - t)) (sub lb f (m - t)))) ++ dg (n - t) (m - t) j).length = f + (coreH KM (DH KM) (sub la f (n - t)) (sub lb f (m - t))).length + j := by simp only [List.length_append, mv_len, dg_len]
            refine T_seq fun K22 hK22 => ?_
            refine T_seq fun K23 hK23 => ?_
            refine T_region ?_
            refine L_y (y_move rfl) rfl ?_
            refine L_y (y_gtr rfl rfl) rfl ?_
            refine L_nil ?_
            refine hK23 _ _ ?_
            refine T_cond rfl (fun h134 => ?_) (fun h134 => ?_)
            ·
              refine T_skip ?_
              refine hK22 _ _ ?_
              refine T_seq fun K24 hK24 => ?_
              refine T_block ?_
              refine T_region ?_
              refine L_y (y_move rfl) rfl ?_
              refine L_y (y_move rfl) rfl ?_
              refine L_y (y_len Try.underlying22 rfl) rfl ?_
              refine L_y (y_move rfl) rfl ?_
              refine L_y (y_sub rfl rfl (i64e (k := n - t + j) (by omega))) rfl ?_
              refine L_y (y_move rfl) rfl ?_
              refine L_y (y_len Try.underlying22 rfl) rfl ?_
              refine L_y (y_move rfl) rfl ?_
              refine L_y (y_sub rfl rfl (i64e (k := m - t + j) (by omega))) rfl ?_
              refine L_y (y_build rfl (show _ = some #[Value.int .i64 ((n - t + j : Nat) : Int), Value.int .i64 ((m - t + j : Nat) : Int)] by kernel_rfl)) rfl ?_
              refine L_o (o_bsl [_, _] te25 zz34 S22 rfl rfl rfl rfl rfl rfl rfl rfl fun b23 w23 S23 => ?_)
              refine L_o (o_app te25 S23 0 rfl rfl rfl (by first | exact S23.row 0 rfl | exact S23.row 1 rfl) (by intro u hu; simp at hu; rcases hu with rfl | rfl <;> rfl) rfl (by omega) (by omega) fun A24 c24 w24 S24 => ?_)
              have S24d := S24.drop (rs' := [_]) (.cons_cons _ (.cons _ (.refl _)))
              refine L_y (y_assign rfl) rfl ?_
              refine L_nil ?_
              refine hK24 _ _ ?_
              refine T_region ?_
              refine L_y (y_move rfl) rfl ?_
              refine L_y (y_sub rfl rfl (i64w (by omega))) rfl ?_
              refine L_y (y_assign rfl) rfl ?_
              refine L_nil ?_
              have S25 := S24d.rowc 0 rfl (n' := ((dg 0 0 f ++ mv f f (coreH KM (DH KM) (sub la f (n - t)) (sub lb f (m - t)))) ++ dg (n - t) (m - t) (j + 1)).length) (xs' := ((dg 0 0 f ++ mv f f (coreH KM (DH KM) (sub la f (n - t)) (sub lb f (m - t)))) ++ dg (n - t) (m - t) (j + 1)).flatMap pf) (by rw [List.length_append, dg_len, List.length_append (bs := dg _ _ (j + 1)), dg_len]; omega) (dg_snoc2 _ _ _ _)
              refine ⟨j + 1, _, _, by omega, ⟨by omega, S25⟩, ?_⟩
              exact (Sub.cons rfl (by first | rfl | exact congrArg (Value.int _) (by omega)) (Sub.cons rfl (by simp only [List.length_append, mv_len, dg_len]; rfl) (Sub.cons rfl rfl (Sub.cons rfl rfl (Sub.nil _)))))
            ·
              refine T_exit ?_
              refine hK20 _ _ ?_
              refine T_seq fun K25 hK25 => ?_
              refine T_region ?_
              refine L_y (y_move rfl) rfl ?_
              refine L_y (y_assign rfl) rfl ?_
              refine L_nil ?_
              refine hK25 _ _ ?_
              refine T_ret ?_
              repeat (first | with_reducible refine up_then ?_ | with_reducible refine up_in ?_)
              refine ret1 rfl rfl ?_
              have hje : j = t := by omega
              subst hje
              refine ⟨_, rfl, S22.like0, _, _, _, rfl, ?_⟩
              have hown := S22.own 0 rfl
              rw [← hDE] at hown ⊢
              exact hown
        ·
          have hsa : (sub (sub la f (n - t)) 0 (bst (sub la f (n - t)) (sub lb f (m - t))).A).length = (bst (sub la f (n - t)) (sub lb f (m - t))).A - 0 := sub_len (by omega)
          have hsb : (sub (sub lb f (m - t)) 0 (bst (sub la f (n - t)) (sub lb f (m - t))).B).length = (bst (sub la f (n - t)) (sub lb f (m - t))).B - 0 := sub_len (by omega)
          have hsc : (sub (sub la f (n - t)) ((bst (sub la f (n - t)) (sub lb f (m - t))).A + (bst (sub la f (n - t)) (sub lb f (m - t))).N) (n - t - f)).length = n - t - f - ((bst (sub la f (n - t)) (sub lb f (m - t))).A + (bst (sub la f (n - t)) (sub lb f (m - t))).N) := sub_len (by omega)
          have hsd : (sub (sub lb f (m - t)) ((bst (sub la f (n - t)) (sub lb f (m - t))).B + (bst (sub la f (n - t)) (sub lb f (m - t))).N) (m - t - f)).length = m - t - f - ((bst (sub la f (n - t)) (sub lb f (m - t))).B + (bst (sub la f (n - t)) (sub lb f (m - t))).N) := sub_len (by omega)
          refine T_seq fun K26 hK26 => ?_
          refine T_zed [0, 1, 2, 3, 4, 5, 6, 7, 8, 10, 11, 9, 12] 13 [(0, 1), (1, 1), (2, 1), (3, 1), (4, 1), (5, 1), (6, 1), (7, 1), (8, 1), (10, 1), (11, 1), (9, 2), (12, 2), (13, 3), (14, 3)] hmix (by kernel_rfl) fun w26 l26 => ?_
          have S26 := S10.like l26
          refine ZA_B (Like w26) (Like.refl _) ?_
          refine ZB_y rfl (y_move rfl) rfl ?_
          refine ZB_y rfl (y_move rfl) rfl ?_
          refine ZB_y rfl (y_fieldA 0 Try.underlying44 rfl sz3 rfl rfl rfl) rfl ?_
          refine ZB_y rfl (y_ldc Try.underlying3 rfl rfl (((S26.blk 1 rfl).cell _).trans (by rfl))) rfl ?_
          refine ZB_y rfl (y_sliceH Try.underlying22 sz3 rfl rfl inferInstance (by omega)) rfl ?_
          refine ZB_y rfl (y_move rfl) rfl ?_
          refine ZB_y rfl (y_fieldA 1 Try.underlying44 rfl sz3 rfl rfl rfl) rfl ?_
          refine ZB_y rfl (y_ldc Try.underlying3 rfl rfl (((S26.blk 1 rfl).cell _).trans (by rfl))) rfl ?_
          refine ZB_y rfl (y_sliceH Try.underlying22 sz3 rfl rfl inferInstance (by omega)) rfl ?_
          refine ZB_y rfl (y_move rfl) rfl ?_
          refine ZB_y rfl (y_move rfl) rfl ?_
          refine ZB_o rfl (o_call Try.func15 rfl rfl (ih _ _ _ _ _ _ (sub (sub la f (n - t)) 0 (bst (sub la f (n - t)) (sub lb f (m - t))).A) (sub (sub lb f (m - t)) 0 (bst (sub la f (n - t)) (sub lb f (m - t))).B) w26 (cutI (cutI (S26.rd ha) (i := f) (u := n - t) (by omega) (by omega)) (i := 0) (u := (bst (sub la f (n - t)) (sub lb f (m - t))).A) (by omega) (by omega)) (cutI (cutI (S26.rd hb) (i := f) (u := m - t) (by omega) (by omega)) (i := 0) (u := (bst (sub la f (n - t)) (sub lb f (m - t))).B) (by omega) (by omega)) (by omega) (by omega) (by omega)) rfl rfl ?_)
          rintro e27 w27 ⟨v27, rfl, l27, A27, n27, c27, rfl, O27⟩
          refine ⟨_, rfl, l27, ?_⟩
          have S27 := S26.adopt l27 O27
          have hdn : n27 = (DH KM (sub (sub la f (n - t)) 0 (bst (sub la f (n - t)) (sub lb f (m - t))).A) (sub (sub lb f (m - t)) 0 (bst (sub la f (n - t)) (sub lb f (m - t))).B)).length := pf_n (S27.row 2 rfl); have hdk := DHK_len (sub (sub la f (n - t)) 0 (bst (sub la f (n - t)) (sub lb f (m - t))).A) (sub (sub lb f (m - t)) 0 (bst (sub la f (n - t)) (sub lb f (m - t))).B)
          have q27 := l27
          refine ZB_o rfl (o_call Try.func36 rfl rfl (rmoved24 _ _ _ (DH KM (sub (sub la f (n - t)) 0 (bst (sub la f (n - t)) (sub lb f (m - t))).A) (sub (sub lb f (m - t)) 0 (bst (sub la f (n - t)) (sub lb f (m - t))).B)) f f w27 (S27.row 2 rfl) (by omega) (by omega) (by omega) (fun q hq => by have := (DH_ok KM_ok (sub (sub la f (n - t)) 0 (bst (sub la f (n - t)) (sub lb f (m - t))).A) (sub (sub lb f (m - t)) 0 (bst (sub la f (n - t)) (sub lb f (m - t))).B)).1 q hq; omega)) rfl rfl ?_)
          rintro e28 w28 ⟨v28, rfl, l28, A28, n28, c28, rfl, O28⟩
          refine ⟨_, rfl, (Like.trans q27 l28), ?_⟩
          have S28 := S27.adopt l28 O28
          have hmn : n28 = (mv f f (DH KM (sub (sub la f (n - t)) 0 (bst (sub la f (n - t)) (sub lb f (m - t))).A) (sub (sub lb f (m - t)) 0 (bst (sub la f (n - t)) (sub lb f (m - t))).B))).length := pf_n (S28.row 3 rfl)
          have hmn2 := hmn
          rw [mv_len] at hmn2
          have q28 := (Like.trans q27 l28)
          refine ZB_c rfl (o_app te25 S28 0 rfl rfl rfl (S28.row 3 rfl) (fun u hu => pf_one _ u hu) rfl (by omega) (by omega) fun A29 c29 w29 S29 => ?_)
          refine ZA_oy rfl (y_assign rfl) rfl ?_
          refine ZA_nil ?_
          refine hK26 _ _ ?_
          refine T_seq fun K27 hK27 => ?_
          refine T_seq fun K28 hK28 => ?_
          have S30 := S29.rowc 0 rfl (n' := (dg 0 0 f ++ mv f f (DH KM (sub (sub la f (n - t)) 0 (bst (sub la f (n - t)) (sub lb f (m - t))).A) (sub (sub lb f (m - t)) 0 (bst (sub la f (n - t)) (sub lb f (m - t))).B))).length) (xs' := (dg 0 0 f ++ mv f f (DH KM (sub (sub la f (n - t)) 0 (bst (sub la f (n - t)) (sub lb f (m - t))).A) (sub (sub lb f (m - t)) 0 (bst (sub la f (n - t)) (sub lb f (m - t))).B))).flatMap pf) (by rw [hmn]; exact List.length_append.symm) (app_pf _ _)
          have S31 : St w0 _ [_, _] w29 := S30.sel [1, 0] (by decide)
          refine T_region ?_
          refine L_y (y_assign rfl) rfl ?_
          refine L_nil ?_
          refine hK28 _ _ ?_
          refine T_block ?_
          refine T_loop3 [(0, _), (1, _), (5, _), (6, _), (9, _), (10, _), (11, _)] (fun (j : Nat) (A1 : Option Addr) (c1 : Nat) => [(12, .int .i64 (j : Int)), (7, .slice A1 ((dg 0 0 f ++ mv f f (DH KM (sub (sub la f (n - t)) 0 (bst (sub la f (n - t)) (sub lb f (m - t))).A) (sub (sub lb f (m - t)) 0 (bst (sub la f (n - t)) (sub lb f (m - t))).B))) ++ dg (f + (bst (sub la f (n - t)) (sub lb f (m - t))).A) (f + (bst (sub la f (n - t)) (sub lb f (m - t))).B) (j)).length c1)]) (fun (j : Nat) (A1 : Option Addr) (c1 : Nat) => (bst (sub la f (n - t)) (sub lb f (m - t))).N - j) (fun (j : Nat) (A1 : Option Addr) (c1 : Nat) (w : World) => j ≤ (bst (sub la f (n - t)) (sub lb f (m - t))).N ∧ St w0 noM [blk b9 44 (ptf (bst (sub la f (n - t)) (sub lb f (m - t)))).toArray, row 34 2 A1 ((dg 0 0 f ++ mv f f (DH KM (sub (sub la f (n - t)) 0 (bst (sub la f (n - t)) (sub lb f (m - t))).A) (sub (sub lb f (m - t)) 0 (bst (sub la f (n - t)) (sub lb f (m - t))).B))) ++ dg (f + (bst (sub la f (n - t)) (sub lb f (m - t))).A) (f + (bst (sub la f (n - t)) (sub lb f (m - t))).B) (j)).length c1 (((dg 0 0 f ++ mv f f (DH KM (sub (sub la f (n - t)) 0 (bst (sub la f (n - t)) (sub lb f (m - t))).A) (sub (sub lb f (m - t)) 0 (bst (sub la f (n - t)) (sub lb f (m - t))).B))) ++ dg (f + (bst (sub la f (n - t)) (sub lb f (m - t))).A) (f + (bst (sub la f (n - t)) (sub lb f (m - t))).B) (j)).flatMap pf)] w) 0 A29 c29 (Sub.cons rfl (by first | rfl | exact congrArg (Value.int _) (by omega) | (rw [hmn, show dg (f + (bst (sub la f (n - t)) (sub lb f (m - t))).A) (f + (bst (sub la f (n - t)) (sub lb f (m - t))).B) 0 = [] from rfl, List.append_nil]; exact congrArg (Value.slice _ · _) List.length_append.symm)) (Sub.cons rfl (by first | rfl | exact congrArg (Value.int _) (by omega) | (rw [hmn, show dg (f + (bst (sub la f (n - t)) (sub lb f (m - t))).A) (f + (bst (sub la f (n - t)) (sub lb f (m - t))).B) 0 = [] from rfl, List.append_nil]; exact congrArg (Value.slice _ · _) List.length_append.symm)) (Sub.nil _))) (Sub.cons rfl rfl (Sub.cons rfl rfl (Sub.cons rfl rfl (Sub.cons rfl rfl (Sub.cons rfl rfl (Sub.cons rfl rfl (Sub.cons rfl rfl (Sub.nil _)))))))) ?_ ?_
          ·
            exact ⟨Nat.zero_le _, by rw [show dg (f + (bst (sub la f (n - t)) (sub lb f (m - t))).A) (f + (bst (sub la f (n - t)) (sub lb f (m - t))).B) 0 = [] from rfl, List.append_nil]; exact S31⟩
          ·
            intro j A1 c1 w32 hrel
            obtain ⟨hj, S32⟩ := hrel
            have hol3 : ((dg 0 0 f ++ mv f f (DH KM (sub (sub la f (n - t)) 0 (bst (sub la f (n - t)) (sub lb f (m - t))).A) (sub (sub lb f (m - t)) 0 (bst (sub la f (n - t)) (sub lb f (m - t))).B))) ++ dg (f + (bst (sub la f (n - t)) (sub lb f (m - t))).A) (f + (bst (sub la f (n - t)) (sub lb f (m - t))).B) (j)).length = f + (DH KM (sub (sub la f (n - t)) 0 (bst (sub la f (n - t)) (sub lb f (m - t))).A) (sub (sub lb f (m - t)) 0 (bst (sub la f (n - t)) (sub lb f (m - t))).B)).length + j := by simp only [List.length_append, mv_len, dg_len]
            refine T_seq fun K29 hK29 => ?_
            refine T_seq fun K30 hK30 => ?_
            refine T_region ?_
            refine L_y (y_move rfl) rfl ?_
            refine L_y (y_fieldA 2 Try.underlying44 rfl sz3 rfl rfl rfl) rfl ?_
            refine L_y (y_ldc Try.underlying3 rfl rfl (((S32.blk 0 rfl).cell _).trans (by rfl))) rfl ?_
            refine L_y (y_lss rfl rfl) rfl ?_
            refine L_nil ?_
            refine hK30 _ _ ?_
            refine T_cond rfl (fun h65 => ?_) (fun h65 => ?_)
            ·
              refine T_skip ?_
              refine hK29 _ _ ?_
              refine T_seq fun K31 hK31 => ?_
              refine T_block ?_
              refine T_region ?_
              refine L_y (y_move rfl) rfl ?_
              refine L_y (y_move rfl) rfl ?_
              refine L_y (y_fieldA 0 Try.underlying44 rfl sz3 rfl rfl rfl) rfl ?_
              refine L_y (y_ldc Try.underlying3 rfl rfl (((S32.blk 0 rfl).cell _).trans (by rfl))) rfl ?_
              refine L_y (y_add rfl rfl (i64e (k := f + (bst (sub la f (n - t)) (sub lb f (m - t))).A) (by omega))) rfl ?_
              refine L_y (y_move rfl) rfl ?_
              refine L_y (y_add rfl rfl (i64e (k := f + (bst (sub la f (n - t)) (sub lb f (m - t))).A + j) (by omega))) rfl ?_
              refine L_y (y_move rfl) rfl ?_
              refine L_y (y_fieldA 1 Try.underlying44 rfl sz3 rfl rfl rfl) rfl ?_
              refine L_y (y_ldc Try.underlying3 rfl rfl (((S32.blk 0 rfl).cell _).trans (by rfl))) rfl ?_
              refine L_y (y_add rfl rfl (i64e (k := f + (bst (sub la f (n - t)) (sub lb f (m - t))).B) (by omega))) rfl ?_
              refine L_y (y_move rfl) rfl ?_
              refine L_y (y_add rfl rfl (i64e (k := f + (bst (sub la f (n - t)) (sub lb f (m - t))).B + j) (by omega))) rfl ?_
              refine L_y (y_build rfl (show _ = some #[Value.int .i64 ((f + (bst (sub la f (n - t)) (sub lb f (m - t))).A + j : Nat) : Int), Value.int .i64 ((f + (bst (sub la f (n - t)) (sub lb f (m - t))).B + j : Nat) : Int)] by kernel_rfl)) rfl ?_
              refine L_o (o_bsl [_, _] te25 zz34 S32 rfl rfl rfl rfl rfl rfl rfl rfl fun b33 w33 S33 => ?_)
              refine L_o (o_app te25 S33 1 rfl rfl rfl (by first | exact S33.row 1 rfl | exact S33.row 2 rfl) (by intro u hu; simp at hu; rcases hu with rfl | rfl <;> rfl) rfl (by omega) (by omega) fun A34 c34 w34 S34 => ?_)
              have S34d := S34.drop (rs' := [_, _]) (.cons_cons _ (.cons_cons _ (.cons _ (.refl _))))
              refine L_y (y_assign rfl) rfl ?_
              refine L_nil ?_
              refine hK31 _ _ ?_
              refine T_region ?_
              refine L_y (y_move rfl) rfl ?_
              refine L_y (y_add rfl rfl (i64w (by omega))) rfl ?_
              refine L_y (y_assign rfl) rfl ?_
              refine L_nil ?_
              have S35 := S34d.rowc 1 rfl (n' := ((dg 0 0 f ++ mv f f (DH KM (sub (sub la f (n - t)) 0 (bst (sub la f (n - t)) (sub lb f (m - t))).A) (sub (sub lb f (m - t)) 0 (bst (sub la f (n - t)) (sub lb f (m - t))).B))) ++ dg (f + (bst (sub la f (n - t)) (sub lb f (m - t))).A) (f + (bst (sub la f (n - t)) (sub lb f (m - t))).B) (j + 1)).length) (xs' := ((dg 0 0 f ++ mv f f (DH KM (sub (sub la f (n - t)) 0 (bst (sub la f (n - t)) (sub lb f (m - t))).A) (sub (sub lb f (m - t)) 0 (bst (sub la f (n - t)) (sub lb f (m - t))).B))) ++ dg (f + (bst (sub la f (n - t)) (sub lb f (m - t))).A) (f + (bst (sub la f (n - t)) (sub lb f (m - t))).B) (j + 1)).flatMap pf) (by rw [List.length_append, dg_len, List.length_append (bs := dg _ _ (j + 1)), dg_len]; omega) (dg_snoc2 _ _ _ _)
              refine ⟨j + 1, _, _, by omega, ⟨by omega, S35⟩, ?_⟩
              exact (Sub.cons rfl (by first | rfl | exact congrArg (Value.int _) (by omega)) (Sub.cons rfl (by simp only [List.length_append, mv_len, dg_len]; rfl) (Sub.cons rfl rfl (Sub.cons rfl rfl (Sub.cons rfl rfl (Sub.cons rfl rfl (Sub.cons rfl rfl (Sub.cons rfl rfl (Sub.cons rfl rfl (Sub.nil _))))))))))
            ·
              refine T_exit ?_
              refine hK27 _ _ ?_
              have hje : j = (bst (sub la f (n - t)) (sub lb f (m - t))).N := by omega
              subst hje
              refine T_zed [0, 1, 2, 3, 4, 5, 6, 7, 8, 9, 10, 11, 12, 13, 14, 16, 17, 18, 19, 20, 21, 22, 23, 24, 25, 26, 27, 28, 29, 15, 30] 31 [(0, 1), (1, 1), (2, 1), (3, 1), (4, 1), (5, 1), (6, 1), (7, 1), (8, 1), (9, 1), (10, 1), (11, 1), (12, 1), (13, 1), (14, 1), (16, 1), (17, 1), (18, 1), (19, 1), (20, 1), (21, 1), (22, 1), (23, 1), (24, 1), (25, 1), (26, 1), (27, 1), (28, 1), (29, 1), (15, 2), (30, 2), (31, 3), (32, 3)] hmix (by kernel_rfl) fun w36 l36 => ?_
              have S36 := S32.like l36
              refine ZA_B (Like w36) (Like.refl _) ?_
              refine ZB_y rfl (y_move rfl) rfl ?_
              refine ZB_y rfl (y_move rfl) rfl ?_
              refine ZB_y rfl (y_fieldA 0 Try.underlying44 rfl sz3 rfl rfl rfl) rfl ?_
              refine ZB_y rfl (y_ldc Try.underlying3 rfl rfl (((S36.blk 0 rfl).cell _).trans (by rfl))) rfl ?_
              refine ZB_y rfl (y_fieldA 2 Try.underlying44 rfl sz3 rfl rfl rfl) rfl ?_
              refine ZB_y rfl (y_ldc Try.underlying3 rfl rfl (((S36.blk 0 rfl).cell _).trans (by rfl))) rfl ?_
              refine ZB_y rfl (y_add rfl rfl (i64e (k := (bst (sub la f (n - t)) (sub lb f (m - t))).A + (bst (sub la f (n - t)) (sub lb f (m - t))).N) (by omega))) rfl ?_
              refine ZB_y rfl (y_sliceL Try.underlying22 sz3 rfl rfl inferInstance (by omega)) rfl ?_
              refine ZB_y rfl (y_move rfl) rfl ?_
              refine ZB_y rfl (y_fieldA 1 Try.underlying44 rfl sz3 rfl rfl rfl) rfl ?_
              refine ZB_y rfl (y_ldc Try.underlying3 rfl rfl (((S36.blk 0 rfl).cell _).trans (by rfl))) rfl ?_
              refine ZB_y rfl (y_fieldA 2 Try.underlying44 rfl sz3 rfl rfl rfl) rfl ?_
              refine ZB_y rfl (y_ldc Try.underlying3 rfl rfl (((S36.blk 0 rfl).cell _).trans (by rfl))) rfl ?_
              refine ZB_y rfl (y_add rfl rfl (i64e (k := (bst (sub la f (n - t)) (sub lb f (m - t))).B + (bst (sub la f (n - t)) (sub lb f (m - t))).N) (by omega))) rfl ?_
              refine ZB_y rfl (y_sliceL Try.underlying22 sz3 rfl rfl inferInstance (by omega)) rfl ?_
              refine ZB_y rfl (y_move rfl) rfl ?_
              refine ZB_y rfl (y_fieldA 0 Try.underlying44 rfl sz3 rfl rfl rfl) rfl ?_
              refine ZB_y rfl (y_ldc Try.underlying3 rfl rfl (((S36.blk 0 rfl).cell _).trans (by rfl))) rfl ?_
              refine ZB_y rfl (y_add rfl rfl (i64e (k := f + (bst (sub la f (n - t)) (sub lb f (m - t))).A) (by omega))) rfl ?_
              refine ZB_y rfl (y_fieldA 2 Try.underlying44 rfl sz3 rfl rfl rfl) rfl ?_
              refine ZB_y rfl (y_ldc Try.underlying3 rfl rfl (((S36.blk 0 rfl).cell _).trans (by rfl))) rfl ?_
              refine ZB_y rfl (y_add rfl rfl (i64e (k := f + (bst (sub la f (n - t)) (sub lb f (m - t))).A + (bst (sub la f (n - t)) (sub lb f (m - t))).N) (by omega))) rfl ?_
              refine ZB_y rfl (y_move rfl) rfl ?_
              refine ZB_y rfl (y_fieldA 1 Try.underlying44 rfl sz3 rfl rfl rfl) rfl ?_
              refine ZB_y rfl (y_ldc Try.underlying3 rfl rfl (((S36.blk 0 rfl).cell _).trans (by rfl))) rfl ?_
              refine ZB_y rfl (y_add rfl rfl (i64e (k := f + (bst (sub la f (n - t)) (sub lb f (m - t))).B) (by omega))) rfl ?_
              refine ZB_y rfl (y_fieldA 2 Try.underlying44 rfl sz3 rfl rfl rfl) rfl ?_
              refine ZB_y rfl (y_ldc Try.underlying3 rfl rfl (((S36.blk 0 rfl).cell _).trans (by rfl))) rfl ?_
              refine ZB_y rfl (y_add rfl rfl (i64e (k := f + (bst (sub la f (n - t)) (sub lb f (m - t))).B + (bst (sub la f (n - t)) (sub lb f (m - t))).N) (by omega))) rfl ?_
              refine ZB_o rfl (o_call Try.func15 rfl rfl (ih _ _ _ _ _ _ (sub (sub la f (n - t)) ((bst (sub la f (n - t)) (sub lb f (m - t))).A + (bst (sub la f (n - t)) (sub lb f (m - t))).N) (n - t - f)) (sub (sub lb f (m - t)) ((bst (sub la f (n - t)) (sub lb f (m - t))).B + (bst (sub la f (n - t)) (sub lb f (m - t))).N) (m - t - f)) w36 (cutI (cutI (S36.rd ha) (i := f) (u := n - t) (by omega) (by omega)) (by omega) (by omega)) (cutI (cutI (S36.rd hb) (i := f) (u := m - t) (by omega) (by omega)) (by omega) (by omega)) (by omega) (by omega) (by omega)) rfl rfl ?_)
              rintro e37 w37 ⟨v37, rfl, l37, A37, n37, c37, rfl, O37⟩
              refine ⟨_, rfl, l37, ?_⟩
              have S37 := S36.adopt l37 O37
              have hdn : n37 = (DH KM (sub (sub la f (n - t)) ((bst (sub la f (n - t)) (sub lb f (m - t))).A + (bst (sub la f (n - t)) (sub lb f (m - t))).N) (n - t - f)) (sub (sub lb f (m - t)) ((bst (sub la f (n - t)) (sub lb f (m - t))).B + (bst (sub la f (n - t)) (sub lb f (m - t))).N) (m - t - f))).length := pf_n (S37.row 2 rfl); have hdk2 := DHK_len (sub (sub la f (n - t)) ((bst (sub la f (n - t)) (sub lb f (m - t))).A + (bst (sub la f (n - t)) (sub lb f (m - t))).N) (n - t - f)) (sub (sub lb f (m - t)) ((bst (sub la f (n - t)) (sub lb f (m - t))).B + (bst (sub la f (n - t)) (sub lb f (m - t))).N) (m - t - f))
              have q37 := l37
              refine ZB_o rfl (o_call Try.func36 rfl rfl (rmoved24 _ _ _ (DH KM (sub (sub la f (n - t)) ((bst (sub la f (n - t)) (sub lb f (m - t))).A + (bst (sub la f (n - t)) (sub lb f (m - t))).N) (n - t - f)) (sub (sub lb f (m - t)) ((bst (sub la f (n - t)) (sub lb f (m - t))).B + (bst (sub la f (n - t)) (sub lb f (m - t))).N) (m - t - f))) (f + (bst (sub la f (n - t)) (sub lb f (m - t))).A + (bst (sub la f (n - t)) (sub lb f (m - t))).N) (f + (bst (sub la f (n - t)) (sub lb f (m - t))).B + (bst (sub la f (n - t)) (sub lb f (m - t))).N) w37 (S37.row 2 rfl) (by omega) (by omega) (by omega) (fun q hq => by have := (DH_ok KM_ok (sub (sub la f (n - t)) ((bst (sub la f (n - t)) (sub lb f (m - t))).A + (bst (sub la f (n - t)) (sub lb f (m - t))).N) (n - t - f)) (sub (sub lb f (m - t)) ((bst (sub la f (n - t)) (sub lb f (m - t))).B + (bst (sub la f (n - t)) (sub lb f (m - t))).N) (m - t - f))).1 q hq; omega)) rfl rfl ?_)
              rintro e38 w38 ⟨v38, rfl, l38, A38, n38, c38, rfl, O38⟩
              refine ⟨_, rfl, (Like.trans q37 l38), ?_⟩
              have S38 := S37.adopt l38 O38
              have hmn : n38 = (mv (f + (bst (sub la f (n - t)) (sub lb f (m - t))).A + (bst (sub la f (n - t)) (sub lb f (m - t))).N) (f + (bst (sub la f (n - t)) (sub lb f (m - t))).B + (bst (sub la f (n - t)) (sub lb f (m - t))).N) (DH KM (sub (sub la f (n - t)) ((bst (sub la f (n - t)) (sub lb f (m - t))).A + (bst (sub la f (n - t)) (sub lb f (m - t))).N) (n - t - f)) (sub (sub lb f (m - t)) ((bst (sub la f (n - t)) (sub lb f (m - t))).B + (bst (sub la f (n - t)) (sub lb f (m - t))).N) (m - t - f)))).length := pf_n (S38.row 3 rfl)
              have hmn2 := hmn
              rw [mv_len] at hmn2
              have q38 := (Like.trans q37 l38)
              refine ZB_c rfl (o_app te25 S38 1 rfl rfl rfl (S38.row 3 rfl) (fun u hu => pf_one _ u hu) rfl (by omega) (by omega) fun A39 c39 w39 S39 => ?_)
              refine ZA_oy rfl (y_assign rfl) rfl ?_
              refine ZA_nil ?_
              refine hK11 _ _ ?_
              refine T_seq fun K32 hK32 => ?_
              refine T_seq fun K33 hK33 => ?_
              have hce : mv f f (coreH KM (DH KM) (sub la f (n - t)) (sub lb f (m - t))) = mv f f (DH KM (sub (sub la f (n - t)) 0 (bst (sub la f (n - t)) (sub lb f (m - t))).A) (sub (sub lb f (m - t)) 0 (bst (sub la f (n - t)) (sub lb f (m - t))).B)) ++ (dg (f + (bst (sub la f (n - t)) (sub lb f (m - t))).A) (f + (bst (sub la f (n - t)) (sub lb f (m - t))).B) (bst (sub la f (n - t)) (sub lb f (m - t))).N ++ mv (f + (bst (sub la f (n - t)) (sub lb f (m - t))).A + (bst (sub la f (n - t)) (sub lb f (m - t))).N) (f + (bst (sub la f (n - t)) (sub lb f (m - t))).B + (bst (sub la f (n - t)) (sub lb f (m - t))).N) (DH KM (sub (sub la f (n - t)) ((bst (sub la f (n - t)) (sub lb f (m - t))).A + (bst (sub la f (n - t)) (sub lb f (m - t))).N) (n - t - f)) (sub (sub lb f (m - t)) ((bst (sub la f (n - t)) (sub lb f (m - t))).B + (bst (sub la f (n - t)) (sub lb f (m - t))).N) (m - t - f)))) := by
                unfold coreH
                rw [if_neg hN0, if_neg (by omega), splitH_mv, ← sub_drop, ← sub_drop, hXl, hYl]
                rfl
              have S40 := S39.rowc 1 rfl (n' := (dg 0 0 f ++ mv f f (coreH KM (DH KM) (sub la f (n - t)) (sub lb f (m - t)))).length) (xs' := (dg 0 0 f ++ mv f f (coreH KM (DH KM) (sub la f (n - t)) (sub lb f (m - t)))).flatMap pf) (by rw [hce]; simp only [List.length_append, mv_len, dg_len] at hmn ⊢; omega) (by rw [hce, app_pf, List.append_assoc, List.append_assoc])
              have S41 : St w0 _ [_] w39 := S40.sel [1] (by decide)
              refine T_region ?_
              refine L_y (y_move rfl) rfl ?_
              refine L_y (y_assign rfl) rfl ?_
              refine L_nil ?_
              refine hK33 _ _ ?_
              refine T_block ?_
              refine T_loop3 [(0, _), (1, _)] (fun (j : Nat) (A1 : Option Addr) (c1 : Nat) => [(13, .int .i64 ((t : Int) - (j : Int))), (7, .slice A1 ((dg 0 0 f ++ mv f f (coreH KM (DH KM) (sub la f (n - t)) (sub lb f (m - t)))) ++ dg (n - t) (m - t) j).length c1)]) (fun (j : Nat) (A1 : Option Addr) (c1 : Nat) => t - j) (fun (j : Nat) (A1 : Option Addr) (c1 : Nat) (w : World) => j ≤ t ∧ St w0 noM [row 34 2 A1 ((dg 0 0 f ++ mv f f (coreH KM (DH KM) (sub la f (n - t)) (sub lb f (m - t)))) ++ dg (n - t) (m - t) j).length c1 (((dg 0 0 f ++ mv f f (coreH KM (DH KM) (sub la f (n - t)) (sub lb f (m - t)))) ++ dg (n - t) (m - t) j).flatMap pf)] w) 0 _ _ (Sub.cons rfl (by first | rfl | exact congrArg (Value.int _) (by omega) | (refine congrArg (Value.slice _ · _) ?_; rw [hce]; simp only [List.length_append, mv_len, dg_len, mv_nil, List.length_nil]; first | done | omega)) (Sub.cons rfl (by first | rfl | exact congrArg (Value.int _) (by omega) | (refine congrArg (Value.slice _ · _) ?_; rw [hce]; simp only [List.length_append, mv_len, dg_len, mv_nil, List.length_nil]; first | done | omega)) (Sub.nil _))) (Sub.cons rfl rfl (Sub.cons rfl rfl (Sub.nil _))) ?_ ?_
              ·
                exact ⟨Nat.zero_le _, by rw [show dg (n - t) (m - t) 0 = [] from rfl, List.append_nil]; exact S41⟩
              ·
                intro j A1 c1 w42 hrel
                obtain ⟨hj, S42⟩ := hrel
                have hdl := dg_len (n - t) (m - t) j
                have hol3 : ((dg 0 0 f ++ mv f f (coreH KM (DH KM) (sub la f (n - t)) (sub lb f (m - t)))) ++ dg (n - t) (m - t) j).length = f + (coreH KM (DH KM) (sub la f (n - t)) (sub lb f (m - t))).length + j := by simp only [List.length_append, mv_len, dg_len]
                refine T_seq fun K34 hK34 => ?_
                refine T_seq fun K35 hK35 => ?_
                refine T_region ?_
                refine L_y (y_move rfl) rfl ?_
                refine L_y (y_gtr rfl rfl) rfl ?_
                refine L_nil ?_
                refine hK35 _ _ ?_
                refine T_cond rfl (fun h134 => ?_) (fun h134 => ?_)
                ·
                  refine T_skip ?_
                  refine hK34 _ _ ?_
                  refine T_seq fun K36 hK36 => ?_
                  refine T_block ?_
                  refine T_region ?_
                  refine L_y (y_move rfl) rfl ?_
                  refine L_y (y_move rfl) rfl ?_
                  refine L_y (y_len Try.underlying22 rfl) rfl ?_
                  refine L_y (y_move rfl) rfl ?_
                  refine L_y (y_sub rfl rfl (i64e (k := n - t + j) (by omega))) rfl ?_
                  refine L_y (y_move rfl) rfl ?_
                  refine L_y (y_len Try.underlying22 rfl) rfl ?_
                  refine L_y (y_move rfl) rfl ?_
                  refine L_y (y_sub rfl rfl (i64e (k := m - t + j) (by omega))) rfl ?_
                  refine L_y (y_build rfl (show _ = some #[Value.int .i64 ((n - t + j : Nat) : Int), Value.int .i64 ((m - t + j : Nat) : Int)] by kernel_rfl)) rfl ?_
                  refine L_o (o_bsl [_, _] te25 zz34 S42 rfl rfl rfl rfl rfl rfl rfl rfl fun b43 w43 S43 => ?_)
                  refine L_o (o_app te25 S43 0 rfl rfl rfl (by first | exact S43.row 0 rfl | exact S43.row 1 rfl) (by intro u hu; simp at hu; rcases hu with rfl | rfl <;> rfl) rfl (by omega) (by omega) fun A44 c44 w44 S44 => ?_)
                  have S44d := S44.drop (rs' := [_]) (.cons_cons _ (.cons _ (.refl _)))
                  refine L_y (y_assign rfl) rfl ?_
                  refine L_nil ?_
                  refine hK36 _ _ ?_
                  refine T_region ?_
                  refine L_y (y_move rfl) rfl ?_
                  refine L_y (y_sub rfl rfl (i64w (by omega))) rfl ?_
                  refine L_y (y_assign rfl) rfl ?_
                  refine L_nil ?_
                  have S45 := S44d.rowc 0 rfl (n' := ((dg 0 0 f ++ mv f f (coreH KM (DH KM) (sub la f (n - t)) (sub lb f (m - t)))) ++ dg (n - t) (m - t) (j + 1)).length) (xs' := ((dg 0 0 f ++ mv f f (coreH KM (DH KM) (sub la f (n - t)) (sub lb f (m - t)))) ++ dg (n - t) (m - t) (j + 1)).flatMap pf) (by rw [List.length_append, dg_len, List.length_append (bs := dg _ _ (j + 1)), dg_len]; omega) (dg_snoc2 _ _ _ _)
                  refine ⟨j + 1, _, _, by omega, ⟨by omega, S45⟩, ?_⟩
                  exact (Sub.cons rfl (by first | rfl | exact congrArg (Value.int _) (by omega)) (Sub.cons rfl (by simp only [List.length_append, mv_len, dg_len]; rfl) (Sub.cons rfl rfl (Sub.cons rfl rfl (Sub.nil _)))))
                ·
                  refine T_exit ?_
                  refine hK32 _ _ ?_
                  refine T_seq fun K37 hK37 => ?_
                  refine T_region ?_
                  refine L_y (y_move rfl) rfl ?_
                  refine L_y (y_assign rfl) rfl ?_
                  refine L_nil ?_
                  refine hK37 _ _ ?_
                  refine T_ret ?_
                  repeat (first | with_reducible refine up_then ?_ | with_reducible refine up_in ?_)
                  refine ret1 rfl rfl ?_
                  have hje : j = t := by omega
                  subst hje
                  refine ⟨_, rfl, S42.like0, _, _, _, rfl, ?_⟩
                  have hown := S42.own 0 rfl
                  rw [← hDE] at hown ⊢
                  exact hown


theorem rhd : ∀ N, RH N
  | 0 => fun _ _ _ _ _ _ _ _ _ _ _ _ _ h => absurd h (Nat.not_lt_zero _)
  | N + 1 => fun A B n ca m cb la lb w0 ha hb hn9 hm9 hN => rhd_step (rhd N) A B n ca m cb la lb w0 ha hb hn9 hm9 hN
end Go.Proofs.Ytbbmkgpgiacdeaa


/-
  The laws PatienceOnce, PatienceChains.
-/
namespace Go.Proofs.Ytbbmkgpgiacdeaa
open Go.RowKit Zk Zx
set_option linter.unusedVariables false
set_option linter.unusedSimpArgs false

section
open Go.ChangeShapes Go.WideShapes Go.ChangeAt Go.Deep
variable {H : Type} {enc : TypeId × Value → H} {w : World} {base : Nat} {spare : Nat → Bool} {held : Bool}
end
end Go.Proofs.Ytbbmkgpgiacdeaa


/-
  The laws PatienceDiffs, PatienceKeeps.
-/
namespace Go.Proofs.Ytbbmkgpgiacdeaa
open Go.RowKit Zk Zx
set_option linter.unusedVariables false
set_option linter.unusedSimpArgs false

theorem remq (q : Nat) : (q : Int).tmod 1000 = ((q % 1000 : Nat) : Int) := by
  rw [Int.tmod_eq_emod_of_nonneg (by omega)]
  omega
theorem iL_app (l m : List Int) : iL l ++ iL m = iL (l ++ m) := by simp [iL]
theorem iL_zer (n : Nat) : List.replicate n (Value.int .i64 0) = iL (List.replicate n 0) := by simp [iL]
/-- Each place's partner. -/
def Par (l : List (Nat × Nat)) (vs : List Int) (k : Nat) : Prop := ∀ (t : Nat) (p : Nat × Nat), t < k → l[t]? = some p → vs[p.1]? = some (p.2 : Int)
theorem Par.at {l : List (Nat × Nat)} {vs : List Int} (h : Par l vs l.length) {i k : Nat} (hm : (i, k) ∈ l) : vs[i]? = some (k : Int) := by
  obtain ⟨t, ht⟩ := List.getElem?_of_mem hm
  exact h t (i, k) (List.getElem?_eq_some_iff.1 ht).1 ht


end Go.Proofs.Ytbbmkgpgiacdeaa


/-
  The laws of the histogram way.
-/
namespace Go.Proofs.Ytbbmkgpgiacdeaa
open Go.RowKit Zk Zx
set_option linter.unusedVariables false
set_option linter.unusedSimpArgs false

theorem bst_works : bst [7, 1, 7, 2, 3] [7, 2, 3, 7] = ⟨2, 0, 3, 1⟩ := by
  have h : (fun p : PT => (p.A, p.B, p.N, p.W)) (bst [7, 1, 7, 2, 3] [7, 2, 3, 7]) = (2, 0, 3, 1) := by decide +kernel
  generalize bst [7, 1, 7, 2, 3] [7, 2, 3, 7] = p at h
  obtain ⟨a, b, c, d⟩ := p
  cases h
  rfl
theorem DH_works : (DH KM [1, 2, 3, 1] [1, 3, 1]).length = 3 := by decide +kernel
theorem fieldsPart : FieldsI Try.prog [{ name := "A", type := 3, offset := 0, embedded := false, tag := "", pkgPath := "", byteOffset := 0 }, { name := "B", type := 3, offset := 1, embedded := false, tag := "", pkgPath := "", byteOffset := 8 }, { name := "N", type := 3, offset := 2, embedded := false, tag := "", pkgPath := "", byteOffset := 16 }, { name := "Worth", type := 3, offset := 3, embedded := false, tag := "", pkgPath := "", byteOffset := 24 }] 0 :=
  ⟨by decide, rfl, Try.underlying3, by decide, rfl, Try.underlying3, by decide, rfl, Try.underlying3, by decide, rfl, Try.underlying3, trivial⟩
theorem DH_pre_len (K : List Int → List Int → List (Nat × Nat)) (a b : List Int) : pre a b ≤ (DH K a b).length := by
  rw [DH_eq, List.length_append, List.length_append, dg_len]
  omega
theorem DH_zer (s : Nat) (la lb : List Int) : s ≤ (DH KM (List.replicate s 0 ++ la) (List.replicate s 0 ++ lb)).length := by
  refine Nat.le_trans (le_pre _ _ s fun k hk => ⟨0, ?_, ?_⟩) (DH_pre_len KM _ _)
  · rw [List.getElem?_append_left (by simpa using hk), List.getElem?_replicate_of_lt hk]
  · rw [List.getElem?_append_left (by simpa using hk), List.getElem?_replicate_of_lt hk]
theorem hdiffU (A B : Option Addr) (n ca m cb : Nat) (la lb : List Int) (w0 : World) (ha : Rs w0 1 A n ca (iL la)) (hb : Rs w0 1 B m cb (iL lb)) :
    Calls Try.prog 13 #[.slice A n ca, .slice B m cb] w0 fun e w' => ∃ u, e = .returned u ∧ Like w0 w' ∧ ∃ (A : Option Addr) (k c : Nat) (x : Int), u = .tuple #[.slice A k c, .int .i64 x] ∧ ((800 < n ∨ 800 < m) ∧ x = 3 ∧ k = 0 ∨ ¬ (800 < n ∨ 800 < m) ∧ x = 0 ∧ k = (DH KM la lb).length) := by
  by_cases h : 800 < n ∨ 800 < m
  · exact (hdiffL A B n ca m cb la lb w0 ha hb h).mono fun e w' ⟨u, h1, h2, h3⟩ => ⟨u, h1, h2, _, _, _, _, h3, .inl ⟨h, rfl, rfl⟩⟩
  · refine (hdiff A B n ca m cb la lb w0 ha hb (by omega) (by omega)).mono fun e w' ⟨u, h1, h2, A1, k, c, h3, h4⟩ => ⟨u, h1, h2, _, _, _, _, h3, .inr ⟨h, rfl, ?_⟩⟩
    have h5 := h4.1
    rw [pf_len] at h5
    omega
set_option maxRecDepth 100000 in
theorem works24  (w0 : World)  :
    Calls Try.prog 12 #[] w0 fun e w' => ∃ u, e = .returned u ∧ Like w0 w' ∧ u = .bool true := by
  refine enter1 (env := []) [] Try.func12 rfl Try.ntmps12 rfl rfl ?_
  have S0 := St.start w0 noM
  refine T_seq fun K1 hK1 => ?_
  refine T_region ?_
  refine L_y (y_assign rfl) rfl ?_
  refine L_nil ?_
  refine hK1 _ _ ?_
  refine T_seq fun K2 hK2 => ?_
  refine T_region ?_
  refine L_o (o_bsl [_, _, _, _, _] te22 zz3 S0 rfl rfl rfl rfl rfl rfl rfl rfl fun b1 w1 S1 => ?_)
  refine L_o (o_bsl [_, _, _, _] te22 zz3 S1 rfl rfl rfl rfl rfl rfl rfl rfl fun b2 w2 S2 => ?_)
  refine L_o (o_call Try.func21 rfl rfl (hBest _ _ _ _ _ _ [7, 1, 7, 2, 3] [7, 2, 3, 7] w2 (S2.row 0 rfl) (S2.row 1 rfl) (by omega) (by omega)) rfl rfl ?_)
  rintro e3 w3 ⟨v3, rfl, l3, rfl⟩
  refine ⟨_, rfl, ?_⟩
  have S3 := S2.like l3
  rw [bst_works]
  refine L_y (y_move rfl) rfl ?_
  refine L_y (y_extract rfl rfl) rfl ?_
  refine L_y (y_extract rfl rfl) rfl ?_
  refine L_o (o_alloc zz43 S3 rfl fun b4 w4 hb4 S4 => ?_)
  refine L_o (o_stW S4 2 rfl rfl rfl sz43 (by rfl) (ptf_one1 _) fun w5 S5 => ?_)
  refine L_y (y_assign rfl) rfl ?_
  refine L_nil ?_
  refine hK2 _ _ ?_
  refine T_seq fun K3 hK3 => ?_
  refine T_region ?_
  refine L_o (o_bsl [_, _, _, _] te22 zz3 S5 rfl rfl rfl rfl rfl rfl rfl rfl fun b6 w6 S6 => ?_)
  refine L_o (o_bsl [_, _, _] te22 zz3 S6 rfl rfl rfl rfl rfl rfl rfl rfl fun b7 w7 S7 => ?_)
  refine L_o (o_call Try.func13 rfl rfl (hdiff _ _ _ _ _ _ [1, 2, 3, 1] [1, 3, 1] w7 (S7.row 3 rfl) (S7.row 4 rfl) (by omega) (by omega)) rfl rfl ?_)
  rintro e8 w8 ⟨v8, rfl, l8, AQ, mQ, cQ, rfl, O8⟩
  refine ⟨_, rfl, ?_⟩
  have S8 := S7.adopt l8 O8
  have hmQ := pf_n (S8.row 5 rfl)
  rw [DH_works] at hmQ
  subst hmQ
  refine L_y (y_move rfl) rfl ?_
  refine L_y (y_extract rfl rfl) rfl ?_
  refine L_y (y_extract rfl rfl) rfl ?_
  refine L_y (y_assign rfl) rfl ?_
  refine L_y (y_assign rfl) rfl ?_
  refine L_nil ?_
  refine hK3 _ _ ?_
  refine T_seq fun K4 hK4 => ?_
  refine T_region ?_
  refine L_y (y_move rfl) rfl ?_
  refine L_y (y_move rfl) rfl ?_
  refine L_split 18 rfl (fun h18 => ?_) (fun h18 => ?_)
  ·
    refine L_gyes rfl rfl ?_
    refine L_y (y_ldW Try.underlying43 rfl sz43 rfl (S8.blk 2 rfl) (show _ = ptf (⟨2, 0, 3, 1⟩) ∧ _ from ⟨rfl, rfl⟩)) rfl ?_
    refine L_gyes rfl rfl ?_
    refine L_y (y_build rfl (show _ = some #[Value.int .i64 2, Value.int .i64 0, Value.int .i64 3, Value.int .i64 1] by kernel_rfl)) rfl ?_
    refine L_gyes rfl rfl ?_
    refine L_y (y_eqI (xs := [2, 0, 3, 1]) (ys := [2, 0, 3, 1]) Try.underlying43 (by kernel_rfl) (by kernel_rfl) fieldsPart rfl rfl rfl rfl) rfl ?_
    refine L_y ((by first | exact y_pickT rfl rfl | exact y_pickF rfl rfl)) rfl ?_
    refine L_y (y_move rfl) rfl ?_
    refine L_split 23 rfl (fun h23 => ?_) (fun h23 => ?_)
    ·
      refine L_gyes rfl rfl ?_
      refine L_y (y_move rfl) rfl ?_
      refine L_gyes rfl rfl ?_
      refine L_y (y_eql rfl rfl) rfl ?_
      refine L_y ((by first | exact y_pickT rfl rfl | exact y_pickF rfl rfl)) rfl ?_
      refine L_y (y_move rfl) rfl ?_
      refine L_split 27 rfl (fun h27 => ?_) (fun h27 => ?_)
      ·
        refine L_gyes rfl rfl ?_
        refine L_y (y_move rfl) rfl ?_
        refine L_gyes rfl rfl ?_
        refine L_y (y_len Try.underlying25 rfl) rfl ?_
        refine L_gyes rfl rfl ?_
        refine L_y (y_eql rfl rfl) rfl ?_
        refine L_y ((by first | exact y_pickT rfl rfl | exact y_pickF rfl rfl)) rfl ?_
        refine L_y (y_assign rfl) rfl ?_
        refine L_nil ?_
        refine hK4 _ _ ?_
        refine T_ret ?_
        repeat (first | with_reducible refine up_then ?_ | with_reducible refine up_in ?_)
        refine ret1 rfl rfl ?_
        exact ⟨_, rfl, S8.like0, rfl⟩
      ·
        exact absurd rfl h27
    ·
      exact absurd rfl h23
  ·
    exact absurd (by decide) h18


set_option maxRecDepth 100000 in
theorem long24 (A B : Option Addr) (n ca m cb : Nat) (w0 : World)  :
    Calls Try.prog 11 #[.slice A n ca, .slice B m cb] w0 fun e w' => ∃ u, e = .returned u ∧ Like w0 w' ∧ u = .bool (decide (90 < n ∨ 90 < m)) := by
  refine enter1 (env := [(0, .slice A n ca), (1, .slice B m cb)]) [.slice A n ca, .slice B m cb] Try.func11 rfl Try.ntmps11 rfl rfl ?_
  have S0 := St.start w0 noM
  refine T_seq fun K1 hK1 => ?_
  refine T_region ?_
  refine L_y (y_assign rfl) rfl ?_
  refine L_nil ?_
  refine hK1 _ _ ?_
  refine T_seq fun K2 hK2 => ?_
  refine T_region ?_
  refine L_y (y_move rfl) rfl ?_
  refine L_y (y_len Try.underlying22 rfl) rfl ?_
  refine L_y (y_gtr rfl rfl) rfl ?_
  refine L_y (y_move rfl) rfl ?_
  refine L_split 8 rfl (fun h8 => ?_) (fun h8 => ?_)
  ·
    refine L_gno rfl rfl rfl ?_
    refine L_gno rfl rfl rfl ?_
    refine L_gno rfl rfl rfl ?_
    refine L_y ((by first | exact y_pickT rfl rfl | exact y_pickF rfl rfl)) rfl ?_
    refine L_y (y_assign rfl) rfl ?_
    refine L_nil ?_
    refine hK2 _ _ ?_
    refine T_ret ?_
    repeat (first | with_reducible refine up_then ?_ | with_reducible refine up_in ?_)
    refine ret1 rfl rfl ?_
    exact ⟨_, rfl, S0.like0, congrArg Value.bool (by first | exact (decide_eq_true (by omega)).symm | exact decide_eq_decide.2 (by omega))⟩
  ·
    refine L_gyes rfl rfl ?_
    refine L_y (y_move rfl) rfl ?_
    refine L_gyes rfl rfl ?_
    refine L_y (y_len Try.underlying22 rfl) rfl ?_
    refine L_gyes rfl rfl ?_
    refine L_y (y_gtr rfl rfl) rfl ?_
    refine L_y ((by first | exact y_pickT rfl rfl | exact y_pickF rfl rfl)) rfl ?_
    refine L_y (y_assign rfl) rfl ?_
    refine L_nil ?_
    refine hK2 _ _ ?_
    refine T_ret ?_
    repeat (first | with_reducible refine up_then ?_ | with_reducible refine up_in ?_)
    refine ret1 rfl rfl ?_
    exact ⟨_, rfl, S0.like0, congrArg Value.bool (by first | exact (decide_eq_true (by omega)).symm | exact decide_eq_decide.2 (by omega))⟩


set_option maxRecDepth 100000 in
theorem hdiffs (A B : Option Addr) (n ca m cb : Nat) (la lb : List Int) (q : Nat) (w0 : World) (ha : Rs w0 1 A n ca (iL la)) (hb : Rs w0 1 B m cb (iL lb)) (hq : q < 65536) :
    Calls Try.prog 6 #[.slice A n ca, .slice B m cb, .int .u16 (q : Int)] w0 fun e w' => ∃ u, e = .returned u ∧ Like w0 w' ∧ u = .bool true := by
  refine enter1 (env := [(0, .slice A n ca), (1, .slice B m cb), (2, .int .u16 (q : Int))]) [.slice A n ca, .slice B m cb, .int .u16 (q : Int)] Try.func6 rfl Try.ntmps6 rfl rfl ?_
  have hla := lenI ha; have hlb := lenI hb; have hcap := ha.cap; have hmax := ha.max; have hcap2 := hb.cap; have hmax2 := hb.max; have S0 := St.start w0 noM
  refine T_seq fun K1 hK1 => ?_
  refine T_region ?_
  refine L_y (y_assign rfl) rfl ?_
  refine L_nil ?_
  refine hK1 _ _ ?_
  refine T_seq fun K2 hK2 => ?_
  refine T_seq fun K3 hK3 => ?_
  refine T_region ?_
  refine L_y (y_move rfl) rfl ?_
  refine L_y (y_move rfl) rfl ?_
  refine L_o (o_call Try.func11 rfl rfl (long24 A B n ca m cb w0) rfl rfl ?_)
  rintro e1 w1 ⟨v1, rfl, l1, rfl⟩
  refine ⟨_, rfl, ?_⟩
  have S1 := S0.like l1
  refine L_nil ?_
  refine hK3 _ _ ?_
  refine T_condB rfl (fun h20 => ?_) (fun h20 => ?_)
  ·
    refine T_seq fun K4 hK4 => ?_
    refine T_region ?_
    refine L_o (o_call Try.func12 rfl rfl (works24 w1) rfl rfl ?_)
    rintro e2 w2 ⟨v2, rfl, l2, rfl⟩
    refine ⟨_, rfl, ?_⟩
    have S2 := S1.like l2
    refine L_y (y_assign rfl) rfl ?_
    refine L_nil ?_
    refine hK4 _ _ ?_
    refine T_ret ?_
    repeat (first | with_reducible refine up_then ?_ | with_reducible refine up_in ?_)
    refine ret1 rfl rfl ?_
    exact ⟨_, rfl, S2.like0, rfl⟩
  ·
    have hl9 := of_decide_eq_false h20
    refine T_skip ?_
    refine hK2 _ _ ?_
    refine T_seq fun K5 hK5 => ?_
    refine T_region ?_
    refine L_y (y_move rfl) rfl ?_
    refine L_y (y_move rfl) rfl ?_
    refine L_o (o_call Try.func13 rfl rfl (hdiff A B n ca m cb la lb w1 (S1.rd ha) (S1.rd hb) (by omega) (by omega)) rfl rfl ?_)
    rintro e3 w3 ⟨v3, rfl, l3, AR, mR, cR, rfl, O3⟩
    refine ⟨_, rfl, ?_⟩
    have S3 := S1.adopt l3 O3
    refine L_y (y_move rfl) rfl ?_
    refine L_y (y_extract rfl rfl) rfl ?_
    refine L_y (y_extract rfl rfl) rfl ?_
    refine L_y (y_assign rfl) rfl ?_
    refine L_y (y_assign rfl) rfl ?_
    refine L_nil ?_
    refine hK5 _ _ ?_
    refine T_seq fun K6 hK6 => ?_
    refine T_seq fun K7 hK7 => ?_
    refine T_region ?_
    refine L_y (y_move rfl) rfl ?_
    refine L_y (y_neq rfl rfl) rfl ?_
    refine L_y (y_move rfl) rfl ?_
    refine L_split 30 rfl (fun h30 => ?_) (fun h30 => ?_)
    ·
      exact absurd rfl h30
    ·
      refine L_gyes rfl rfl ?_
      refine L_y (y_move rfl) rfl ?_
      refine L_gyes rfl rfl ?_
      refine L_y (y_move rfl) rfl ?_
      refine L_gyes rfl rfl ?_
      refine L_y (y_move rfl) rfl ?_
      refine L_gyes rfl rfl ?_
      refine L_o (o_call Try.func15 rfl rfl (rhd (n + m + 1) A B n ca m cb la lb w3 (S3.rd ha) (S3.rd hb) (by omega) (by omega) (by omega)) rfl rfl ?_)
      rintro e5 w5 ⟨v5, rfl, l5, AQ, mQ, cQ, rfl, O5⟩
      refine ⟨_, rfl, ?_⟩
      have S5 := S3.adopt l5 O5
      refine L_gyes rfl rfl ?_
      refine L_o (o_call Try.func14 rfl rfl (rsame AR AQ mR cR mQ cQ (DH KM la lb) w5 (S5.row 0 rfl) (S5.row 1 rfl)) rfl rfl ?_)
      rintro e6 w6 ⟨v6, rfl, l6, rfl⟩
      refine ⟨_, rfl, ?_⟩
      have S6 := S5.like l6
      refine L_gyes rfl rfl ?_
      refine L_y ((by first | exact y_notD rfl | exact y_not rfl)) rfl ?_
      refine L_y ((by first | exact y_pickT rfl rfl | exact y_pickF rfl rfl)) rfl ?_
      refine L_nil ?_
      refine hK7 _ _ ?_
      refine T_false rfl ?_
      refine T_skip ?_
      refine hK6 _ _ ?_
      refine T_seq fun K8 hK8 => ?_
      refine T_region ?_
      refine L_y (y_move rfl) rfl ?_
      refine L_y (y_conv is48 Try.underlying3 rfl (i64w (by omega))) rfl ?_
      refine L_y (y_rem rfl rfl (by omega) (remq q)) rfl ?_
      refine L_o (o_make te22 rfl S6 rfl rfl inferInstance inferInstance rfl (by omega) (by omega) (by omega) fun b7 w7 S7 => ?_)
      refine L_y (y_assign rfl) rfl ?_
      refine L_nil ?_
      refine hK8 _ _ ?_
      refine T_seq fun K9 hK9 => ?_
      refine T_region ?_
      refine L_o (o_bsl0 te22 S7 rfl fun b8 w8 l8 S8 => ?_)
      refine L_y (y_move rfl) rfl ?_
      refine L_o (o_app te22 S8 3 rfl rfl rfl (S8.row 2 rfl) (by rw [iL_zer]; exact iL_one _) rfl (by omega) (by omega) fun A9 c9 w9 S9 => ?_)
      refine L_y (y_move rfl) rfl ?_
      refine L_o (o_app te22 S9 3 rfl rfl rfl (S9.rd ha) (iL_one _) rfl (by omega) (by omega) fun A10 c10 w10 S10 => ?_)
      refine L_o (o_bsl0 te22 S10 rfl fun b11 w11 l11 S11 => ?_)
      refine L_y (y_move rfl) rfl ?_
      refine L_o (o_app te22 S11 4 rfl rfl rfl (S11.row 2 rfl) (by rw [iL_zer]; exact iL_one _) rfl (by omega) (by omega) fun A12 c12 w12 S12 => ?_)
      refine L_y (y_move rfl) rfl ?_
      refine L_o (o_app te22 S12 4 rfl rfl rfl (S12.rd hb) (iL_one _) rfl (by omega) (by omega) fun A13 c13 w13 S13 => ?_)
      refine L_y (y_assign rfl) rfl ?_
      refine L_y (y_assign rfl) rfl ?_
      refine L_nil ?_
      refine hK9 _ _ ?_
      refine T_seq fun K10 hK10 => ?_
      refine T_region ?_
      refine L_y (y_move rfl) rfl ?_
      refine L_y (y_move rfl) rfl ?_
      refine L_o (o_call Try.func13 rfl rfl (hdiffU _ _ _ _ _ _ (List.replicate (q % 1000) 0 ++ la) (List.replicate (q % 1000) 0 ++ lb) w13 (by rw [← iL_app, ← iL_zer]; exact S13.row 3 rfl) (by rw [← iL_app, ← iL_zer]; exact S13.row 4 rfl)) rfl rfl ?_)
      rintro e14 w14 ⟨v14, rfl, l14, A14, kR, c14, xR, rfl, hU⟩
      refine ⟨_, rfl, ?_⟩
      have S14 := S13.like l14
      have hz := DH_zer (q % 1000) la lb
      refine L_y (y_move rfl) rfl ?_
      refine L_y (y_extract rfl rfl) rfl ?_
      refine L_y (y_extract rfl rfl) rfl ?_
      refine L_y (y_assign rfl) rfl ?_
      refine L_y (y_assign rfl) rfl ?_
      refine L_nil ?_
      refine hK10 _ _ ?_
      refine T_seq fun K11 hK11 => ?_
      refine T_seq fun K12 hK12 => ?_
      refine T_region ?_
      refine L_y (y_move rfl) rfl ?_
      refine L_y (y_len Try.underlying22 rfl) rfl ?_
      refine L_y (y_gtr rfl rfl) rfl ?_
      refine L_y (y_move rfl) rfl ?_
      refine L_split 61 rfl (fun h61 => ?_) (fun h61 => ?_)
      ·
        refine L_gno rfl rfl rfl ?_
        refine L_gno rfl rfl rfl ?_
        refine L_gno rfl rfl rfl ?_
        refine L_y ((by first | exact y_pickT rfl rfl | exact y_pickF rfl rfl)) rfl ?_
        refine L_nil ?_
        refine hK12 _ _ ?_
        refine T_true rfl ?_
        refine T_seq fun K13 hK13 => ?_
        refine T_region ?_
        refine L_y (y_move rfl) rfl ?_
        refine L_y (y_move rfl) rfl ?_
        refine L_o (o_call Try.func18 rfl rfl (hPartsL _ _ _ _ _ _ (List.replicate (q % 1000) 0 ++ la) (List.replicate (q % 1000) 0 ++ lb) w14 (by rw [← iL_app, ← iL_zer]; exact S14.row 3 rfl) (by rw [← iL_app, ← iL_zer]; exact S14.row 4 rfl) (by omega)) rfl rfl ?_)
        rintro e16 w16 ⟨v16, rfl, l16, rfl⟩
        refine ⟨_, rfl, ?_⟩
        have S16 := S14.like l16
        refine L_y (y_move rfl) rfl ?_
        refine L_y (y_extract rfl rfl) rfl ?_
        refine L_y (y_extract rfl rfl) rfl ?_
        refine L_y (y_assign rfl) rfl ?_
        refine L_y (y_assign rfl) rfl ?_
        refine L_nil ?_
        refine hK13 _ _ ?_
        refine T_seq fun K14 hK14 => ?_
        refine T_region ?_
        refine L_y (y_move rfl) rfl ?_
        refine L_y (y_move rfl) rfl ?_
        refine L_o (o_call Try.func21 rfl rfl (hBestL _ _ _ _ _ _ (List.replicate (q % 1000) 0 ++ la) (List.replicate (q % 1000) 0 ++ lb) w16 (by rw [← iL_app, ← iL_zer]; exact S16.row 3 rfl) (by rw [← iL_app, ← iL_zer]; exact S16.row 4 rfl) (by omega)) rfl rfl ?_)
        rintro e17 w17 ⟨v17, rfl, l17, rfl⟩
        refine ⟨_, rfl, ?_⟩
        have S17 := S16.like l17
        refine L_y (y_move rfl) rfl ?_
        refine L_y (y_extract rfl rfl) rfl ?_
        refine L_y (y_extract rfl rfl) rfl ?_
        refine L_o (o_alloc zz43 S17 rfl fun b18 w18 hb18 S18 => ?_)
        refine L_o (o_stW S18 5 rfl rfl rfl sz43 (by rfl) (by intro u hu; simp at hu; rw [hu]; rfl) fun w19 S19 => ?_)
        refine L_y (y_assign rfl) rfl ?_
        refine L_nil ?_
        refine hK14 _ _ ?_
        refine T_seq fun K15 hK15 => ?_
        refine T_region ?_
        refine L_y (y_move rfl) rfl ?_
        refine L_y (y_eql rfl rfl) rfl ?_
        refine L_y (y_move rfl) rfl ?_
        refine L_split 80 rfl (fun h80 => ?_) (fun h80 => ?_)
        ·
          refine L_gyes rfl rfl ?_
          refine L_y (y_move rfl) rfl ?_
          refine L_gyes rfl rfl ?_
          refine L_y (y_move rfl) rfl ?_
          refine L_gyes rfl rfl ?_
          refine L_y (y_eql rfl rfl) rfl ?_
          refine L_y ((by first | exact y_pickT rfl rfl | exact y_pickF rfl rfl)) rfl ?_
          refine L_y (y_move rfl) rfl ?_
          refine L_split 85 rfl (fun h85 => ?_) (fun h85 => ?_)
          ·
            refine L_gyes rfl rfl ?_
            refine L_y (y_move rfl) rfl ?_
            refine L_gyes rfl rfl ?_
            refine L_y (y_not rfl) rfl ?_
            refine L_y ((by first | exact y_pickT rfl rfl | exact y_pickF rfl rfl)) rfl ?_
            refine L_y (y_move rfl) rfl ?_
            refine L_gyes rfl rfl ?_
            refine L_y (y_move rfl) rfl ?_
            refine L_gyes rfl rfl ?_
            refine L_y (y_len Try.underlying25 rfl) rfl ?_
            refine L_gyes rfl rfl ?_
            refine L_y (y_eql rfl rfl) rfl ?_
            refine L_y ((by first | exact y_pickT rfl rfl | exact y_pickF rfl rfl)) rfl ?_
            refine L_y (y_move rfl) rfl ?_
            refine L_split 94 rfl (fun h94 => ?_) (fun h94 => ?_)
            ·
              refine L_gyes rfl rfl ?_
              refine L_o (o_call Try.func12 rfl rfl (works24 w19) rfl rfl ?_)
              rintro e23 w23 ⟨v23, rfl, l23, rfl⟩
              refine ⟨_, rfl, ?_⟩
              have S23 := S19.like l23
              refine L_y ((by first | exact y_pickT rfl rfl | exact y_pickF rfl rfl)) rfl ?_
              refine L_y (y_assign rfl) rfl ?_
              refine L_nil ?_
              refine hK15 _ _ ?_
              refine T_ret ?_
              repeat (first | with_reducible refine up_then ?_ | with_reducible refine up_in ?_)
              refine ret1 rfl rfl ?_
              exact ⟨_, rfl, S23.like0, rfl⟩
            ·
              exact absurd (by omega) h94
          ·
            exact absurd (by omega) h85
        ·
          exact absurd (by omega) h80
      ·
        refine L_gyes rfl rfl ?_
        refine L_y (y_move rfl) rfl ?_
        refine L_gyes rfl rfl ?_
        refine L_y (y_len Try.underlying22 rfl) rfl ?_
        refine L_gyes rfl rfl ?_
        refine L_y (y_gtr rfl rfl) rfl ?_
        refine L_y ((by first | exact y_pickT rfl rfl | exact y_pickF rfl rfl)) rfl ?_
        refine L_nil ?_
        refine hK12 _ _ ?_
        refine T_cond rfl (fun h65 => ?_) (fun h65 => ?_)
        ·
          refine T_seq fun K16 hK16 => ?_
          refine T_region ?_
          refine L_y (y_move rfl) rfl ?_
          refine L_y (y_move rfl) rfl ?_
          refine L_o (o_call Try.func18 rfl rfl (hPartsL _ _ _ _ _ _ (List.replicate (q % 1000) 0 ++ la) (List.replicate (q % 1000) 0 ++ lb) w14 (by rw [← iL_app, ← iL_zer]; exact S14.row 3 rfl) (by rw [← iL_app, ← iL_zer]; exact S14.row 4 rfl) (by omega)) rfl rfl ?_)
          rintro e24 w24 ⟨v24, rfl, l24, rfl⟩
          refine ⟨_, rfl, ?_⟩
          have S24 := S14.like l24
          refine L_y (y_move rfl) rfl ?_
          refine L_y (y_extract rfl rfl) rfl ?_
          refine L_y (y_extract rfl rfl) rfl ?_
          refine L_y (y_assign rfl) rfl ?_
          refine L_y (y_assign rfl) rfl ?_
          refine L_nil ?_
          refine hK16 _ _ ?_
          refine T_seq fun K17 hK17 => ?_
          refine T_region ?_
          refine L_y (y_move rfl) rfl ?_
          refine L_y (y_move rfl) rfl ?_
          refine L_o (o_call Try.func21 rfl rfl (hBestL _ _ _ _ _ _ (List.replicate (q % 1000) 0 ++ la) (List.replicate (q % 1000) 0 ++ lb) w24 (by rw [← iL_app, ← iL_zer]; exact S24.row 3 rfl) (by rw [← iL_app, ← iL_zer]; exact S24.row 4 rfl) (by omega)) rfl rfl ?_)
          rintro e25 w25 ⟨v25, rfl, l25, rfl⟩
          refine ⟨_, rfl, ?_⟩
          have S25 := S24.like l25
          refine L_y (y_move rfl) rfl ?_
          refine L_y (y_extract rfl rfl) rfl ?_
          refine L_y (y_extract rfl rfl) rfl ?_
          refine L_o (o_alloc zz43 S25 rfl fun b26 w26 hb26 S26 => ?_)
          refine L_o (o_stW S26 5 rfl rfl rfl sz43 (by rfl) (by intro u hu; simp at hu; rw [hu]; rfl) fun w27 S27 => ?_)
          refine L_y (y_assign rfl) rfl ?_
          refine L_nil ?_
          refine hK17 _ _ ?_
          refine T_seq fun K18 hK18 => ?_
          refine T_region ?_
          refine L_y (y_move rfl) rfl ?_
          refine L_y (y_eql rfl rfl) rfl ?_
          refine L_y (y_move rfl) rfl ?_
          refine L_split 80 rfl (fun h80 => ?_) (fun h80 => ?_)
          ·
            refine L_gyes rfl rfl ?_
            refine L_y (y_move rfl) rfl ?_
            refine L_gyes rfl rfl ?_
            refine L_y (y_move rfl) rfl ?_
            refine L_gyes rfl rfl ?_
            refine L_y (y_eql rfl rfl) rfl ?_
            refine L_y ((by first | exact y_pickT rfl rfl | exact y_pickF rfl rfl)) rfl ?_
            refine L_y (y_move rfl) rfl ?_
            refine L_split 85 rfl (fun h85 => ?_) (fun h85 => ?_)
            ·
              refine L_gyes rfl rfl ?_
              refine L_y (y_move rfl) rfl ?_
              refine L_gyes rfl rfl ?_
              refine L_y (y_not rfl) rfl ?_
              refine L_y ((by first | exact y_pickT rfl rfl | exact y_pickF rfl rfl)) rfl ?_
              refine L_y (y_move rfl) rfl ?_
              refine L_gyes rfl rfl ?_
              refine L_y (y_move rfl) rfl ?_
              refine L_gyes rfl rfl ?_
              refine L_y (y_len Try.underlying25 rfl) rfl ?_
              refine L_gyes rfl rfl ?_
              refine L_y (y_eql rfl rfl) rfl ?_
              refine L_y ((by first | exact y_pickT rfl rfl | exact y_pickF rfl rfl)) rfl ?_
              refine L_y (y_move rfl) rfl ?_
              refine L_split 94 rfl (fun h94 => ?_) (fun h94 => ?_)
              ·
                refine L_gyes rfl rfl ?_
                refine L_o (o_call Try.func12 rfl rfl (works24 w27) rfl rfl ?_)
                rintro e31 w31 ⟨v31, rfl, l31, rfl⟩
                refine ⟨_, rfl, ?_⟩
                have S31 := S27.like l31
                refine L_y ((by first | exact y_pickT rfl rfl | exact y_pickF rfl rfl)) rfl ?_
                refine L_y (y_assign rfl) rfl ?_
                refine L_nil ?_
                refine hK18 _ _ ?_
                refine T_ret ?_
                repeat (first | with_reducible refine up_then ?_ | with_reducible refine up_in ?_)
                refine ret1 rfl rfl ?_
                exact ⟨_, rfl, S31.like0, rfl⟩
              ·
                exact absurd (by omega) h94
            ·
              exact absurd (by omega) h85
          ·
            exact absurd (by omega) h80
        ·
          refine T_skip ?_
          refine hK11 _ _ ?_
          refine T_seq fun K19 hK19 => ?_
          refine T_region ?_
          refine L_y (y_move rfl) rfl ?_
          refine L_y (y_eql rfl rfl) rfl ?_
          refine L_y (y_move rfl) rfl ?_
          refine L_split 99 rfl (fun h99 => ?_) (fun h99 => ?_)
          ·
            refine L_gyes rfl rfl ?_
            refine L_y (y_move rfl) rfl ?_
            refine L_gyes rfl rfl ?_
            refine L_y (y_len Try.underlying25 rfl) rfl ?_
            refine L_gyes rfl rfl ?_
            refine L_y (y_move rfl) rfl ?_
            refine L_gyes rfl rfl ?_
            refine L_y (y_len Try.underlying22 rfl) rfl ?_
            refine L_gyes rfl rfl ?_
            refine L_y (y_geq rfl rfl) rfl ?_
            refine L_y ((by first | exact y_pickT rfl rfl | exact y_pickF rfl rfl)) rfl ?_
            refine L_y (y_move rfl) rfl ?_
            refine L_split 106 rfl (fun h106 => ?_) (fun h106 => ?_)
            ·
              refine L_gyes rfl rfl ?_
              refine L_o (o_call Try.func12 rfl rfl (works24 w14) rfl rfl ?_)
              rintro e34 w34 ⟨v34, rfl, l34, rfl⟩
              refine ⟨_, rfl, ?_⟩
              have S34 := S14.like l34
              refine L_y ((by first | exact y_pickT rfl rfl | exact y_pickF rfl rfl)) rfl ?_
              refine L_y (y_assign rfl) rfl ?_
              refine L_nil ?_
              refine hK19 _ _ ?_
              refine T_ret ?_
              repeat (first | with_reducible refine up_then ?_ | with_reducible refine up_in ?_)
              refine ret1 rfl rfl ?_
              exact ⟨_, rfl, S34.like0, rfl⟩
            ·
              exact absurd (by omega) h106
          ·
            exact absurd (by omega) h99


theorem hdiffs_law (A B : Option Addr) (n ca m cb : Nat) (la lb : List Int) (x : Int) (w0 : World) (ha : Rs w0 1 A n ca (iL la)) (hb : Rs w0 1 B m cb (iL lb)) (hx : (Lit.int .u16 x).wf = true) :
    Calls Try.prog 6 #[.slice A n ca, .slice B m cb, .int .u16 x] w0 fun e w' => e = .returned (.bool true) ∧ Below w0.heap.size w0 w' := by
  have h9 : 0 ≤ x ∧ x < 65536 := by
    unfold Lit.wf at hx
    rw [Bool.and_eq_true] at hx
    have h1 : (0 : Int) ≤ x := of_decide_eq_true hx.1
    have h2 : x ≤ 65535 := of_decide_eq_true hx.2
    omega
  obtain ⟨q, rfl⟩ : ∃ q : Nat, x = (q : Int) := ⟨x.toNat, by omega⟩
  exact (hdiffs A B n ca m cb la lb q w0 ha hb (by omega)).mono fun e w' ⟨u, h1, h2, h3⟩ => by subst h3; exact ⟨h1, h2⟩


end Go.Proofs.Ytbbmkgpgiacdeaa
