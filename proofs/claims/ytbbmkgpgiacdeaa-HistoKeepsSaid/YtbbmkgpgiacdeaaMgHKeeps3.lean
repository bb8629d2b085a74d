import Derived.Test.YtbbmkgpgiacdeaaMgHKeeps2

/-
  The program: Diff, by the histogram way.
-/
namespace Go.Proofs.Ytbbmkgpgiacdeaa
open Go.RowKit Zk Zx
set_option linter.unusedVariables false
set_option linter.unusedSimpArgs false

theorem y_sliceH0 {P : Program} {S : World → Prop} {env : Env} {dst : Option Tmp} {ty : TypeId} {pos : String} {after : Array Edge} {g : Option (Nat × Bool)} {x : Operand} {t e : TypeId} {A : Option Addr} {n c u size : Nat} {kh : IntKind} {jh : Int} {j : Operand} (ht : P.underlying t = some (.slice e)) (hsz : (P.info? e).map (·.size) = some size) (hx : ev env x = some (.slice A n c))
    (hj : ev env j = some (.int kh jh)) (hu : Nt jh u) (h2 : u ≤ c) : Y P S env ⟨dst, .slice t x none (some j) none, ty, pos, after, g⟩ (.slice A u c) := by
  have h := y_sliceH (P := P) (S := S) (env := env) (dst := dst) (ty := ty) (pos := pos) (after := after) (g := g) ht hsz hx hj hu h2
  rw [cutA_zero, Nat.sub_zero, Nat.sub_zero] at h
  exact h
theorem DHK_len (a b : List Int) : (DH KM a b).length ≤ a.length := by
  have := (DH_ok KM_ok a b).len
  omega
theorem bf_snoc2 (ps : List BK) (z1 z2 : BK) : ps.flatMap bf ++ (bf z1 ++ bf z2) = (ps ++ [z1, z2]).flatMap bf := by
  rw [List.flatMap_append]
  simp
theorem bf_one3 (x y : BK) : ∀ u ∈ bf x ++ bf y, u.oneCell' = true := fun u hu => by
  rcases List.mem_append.1 hu with hu | hu
  · exact bf_one2 x u (by simpa using hu)
  · exact bf_one2 y u (by simpa using hu)
theorem Wt_two (ps : List BK) (x y : BK) : Wt (ps ++ [x, y]) = Wt ps + wt x + wt y := by simp [Wt, Nat.add_assoc]
theorem len_two {α : Type} (l : List α) (x y : α) : l.length + 2 = (l ++ [x, y]).length := by simp
theorem flat_two (f : BK → List (Nat × Nat)) (qs : List BK) (x y : BK) : (qs ++ [x, y]).flatMap f = qs.flatMap f ++ (f x ++ f y) := by simp


set_option maxRecDepth 100000 in
set_option maxHeartbeats 4000000 in
theorem hrun (A B : Option Addr) (n ca m cb : Nat) (la lb : List Int) (w0 : World) (ha : Rs w0 1 A n ca (iL la)) (hb : Rs w0 1 B m cb (iL lb)) (hn9 : n ≤ 800) (hm9 : m ≤ 800) :
    Calls Try.prog 32 #[.slice A n ca, .slice B m cb] w0 fun e w' => ∃ u, e = .returned u ∧ Like w0 w' ∧ ∃ (A : Option Addr) (ks : List (Nat × Nat)) (c : Nat), u = .slice A ks.length c ∧ w'.ownsRow w0.heap.size 34 2 (.slice A ks.length c) ks.length (ks.flatMap pf) ∧ ks.Perm (DH KM la lb) := by
  refine enter1 (env := [(0, .slice A n ca), (1, .slice B m cb)]) [.slice A n ca, .slice B m cb] Try.func32 rfl Try.ntmps32 rfl rfl ?_
  have hla := lenI ha; have hlb := lenI hb; have hcap := ha.cap; have hmax := ha.max; have hcap2 := hb.cap; have hmax2 := hb.max; have S0 := St.start w0 noM
  refine T_seq fun K1 hK1 => ?_
  refine T_region ?_
  refine L_y (y_assign rfl) rfl ?_
  refine L_nil ?_
  refine hK1 _ _ ?_
  refine T_seq fun K2 hK2 => ?_
  refine T_region ?_
  refine L_o (o_alloc zz25 S0 rfl fun b1 w1 hb1 S1 => ?_)
  have S2 := S1.nilrow 34 2
  refine L_nil ?_
  refine hK2 _ _ ?_
  refine T_seq fun K3 hK3 => ?_
  refine T_region ?_
  refine L_y (y_makeFunc rfl rfl) rfl ?_
  refine L_y (y_assign rfl) rfl ?_
  refine L_nil ?_
  refine hK3 _ _ ?_
  refine T_seq fun K4 hK4 => ?_
  refine T_seq fun K5 hK5 => ?_
  refine T_region ?_
  refine L_y (y_move rfl) rfl ?_
  refine L_y (y_len Try.underlying22 rfl) rfl ?_
  refine L_y (y_move rfl) rfl ?_
  refine L_y (y_len Try.underlying22 rfl) rfl ?_
  refine L_y (y_build rfl (show _ = some #[Value.int .i64 0, Value.int .i64 (n : Int), Value.int .i64 0, Value.int .i64 (m : Int)] by rfl)) rfl ?_
  refine L_o (o_bsl [_, _, _, _] te79 zz78 S2 rfl rfl rfl rfl rfl rfl rfl rfl fun b3 w3 S3 => ?_)
  refine L_y (y_assign rfl) rfl ?_
  have S4 : St w0 _ [_, _, _] w3 := S3.sel [2, 0, 1] (by decide)
  refine L_nil ?_
  refine hK5 _ _ ?_
  refine T_block ?_
  refine T_loop6 [(0, _), (1, _), (5, _), (6, _)] (fun (PA : Option Addr) (pc : Nat) (ps : List BK) (KA : Option Addr) (kc : Nat) (ks : List (Nat × Nat)) => [(7, .slice PA ps.length pc)]) (fun (PA : Option Addr) (pc : Nat) (ps : List BK) (KA : Option Addr) (kc : Nat) (ks : List (Nat × Nat)) => Wt ps) (fun (PA : Option Addr) (pc : Nat) (ps : List BK) (KA : Option Addr) (kc : Nat) (ks : List (Nat × Nat)) (w : World) => ((∀ z ∈ ps, BKok la.length lb.length z) ∧ Wt ps ≤ n + m + 1 ∧ (ks ++ ps.flatMap (HB KM la lb)).Perm (DH KM la lb)) ∧ St w0 noM [row 78 4 PA (ps).length pc ((ps).flatMap bf), blk b1 25 #[.slice KA (ks).length kc], row 34 2 KA (ks).length kc ((ks).flatMap pf)] w) (some ⟨b3, 0, none⟩) 1 [⟨0, n, 0, m⟩] none 0 [] (Sub.cons rfl (by first | rfl | exact congrArg (Value.int _) (by omega)) (Sub.nil _)) (Sub.cons rfl rfl (Sub.cons rfl rfl (Sub.cons rfl rfl (Sub.cons rfl rfl (Sub.nil _))))) ?_ ?_
  ·
    refine ⟨⟨fun z hz => by obtain rfl := List.mem_singleton.1 hz; exact ⟨Nat.zero_le _, (by show n ≤ la.length; omega), Nat.zero_le _, (by show m ≤ lb.length; omega)⟩, Nat.le_refl _, ?_⟩, S4⟩
    rw [List.nil_append, List.flatMap_singleton]
    unfold HB
    rw [mv_zero, show sub la 0 n = la by rw [← hla]; exact sub_all la, show sub lb 0 m = lb by rw [← hlb]; exact sub_all lb]
  ·
    intro PA pc ps KA kc ks w5 hrel
    obtain ⟨⟨hbk, hW, hpm⟩, S5⟩ := hrel
    have hWl := Wt_len ps
    have hpl := hpm.length_eq
    have hdl := DHK_len la lb
    have hpc := (S5.row 0 rfl).cap
    have hpx := (S5.row 0 rfl).max
    refine T_seq fun K6 hK6 => ?_
    refine T_seq fun K7 hK7 => ?_
    refine T_region ?_
    refine L_y (y_move rfl) rfl ?_
    refine L_y (y_len Try.underlying79 rfl) rfl ?_
    refine L_y (y_gtr rfl rfl) rfl ?_
    refine L_nil ?_
    refine hK7 _ _ ?_
    refine T_cond rfl (fun h28 => ?_) (fun h28 => ?_)
    ·
      obtain ⟨qs, ⟨a, an, b, bn⟩, rfl⟩ : ∃ qs x, ps = qs ++ [x] := ⟨ps.dropLast, ps.getLast (fun e => by rw [e] at h28; exact absurd h28 (by decide)), (List.dropLast_concat_getLast _).symm⟩
      have hql : (qs ++ [(⟨a, an, b, bn⟩ : BK)]).length = qs.length + 1 := List.length_append
      have hbx := hbk ⟨a, an, b, bn⟩ (List.mem_append_right _ (List.mem_singleton_self _))
      have ba1 : a ≤ an := hbx.1
      have ba2 : an ≤ la.length := hbx.2.1
      have ba3 : b ≤ bn := hbx.2.2.1
      have ba4 : bn ≤ lb.length := hbx.2.2.2
      have hbq : ∀ z ∈ qs, BKok la.length lb.length z := fun z hz => hbk z (List.mem_append_left _ hz)
      have hgx : (qs ++ [(⟨a, an, b, bn⟩ : BK)])[qs.length]? = some ⟨a, an, b, bn⟩ := by simp
      have hWs := Wt_snoc qs ⟨a, an, b, bn⟩
      have hwx : wt ⟨a, an, b, bn⟩ = (an - a) + (bn - b) + 1 := rfl
      have hpm9 := hpm
      rw [List.flatMap_append, List.flatMap_singleton] at hpm9
      have hT : (ks ++ (HB KM la lb ⟨a, an, b, bn⟩ ++ qs.flatMap (HB KM la lb))).length ≤ 4096 := by
        have h9 := ((List.Perm.append_left ks List.perm_append_comm).trans hpm9).length_eq
        omega
      refine T_skip ?_
      refine hK6 _ _ ?_
      refine T_block ?_
      refine T_seq fun K8 hK8 => ?_
      refine T_region ?_
      refine L_y (y_move rfl) rfl ?_
      refine L_y (y_move rfl) rfl ?_
      refine L_y (y_len Try.underlying79 rfl) rfl ?_
      refine L_y (y_sub rfl rfl (i64e (k := qs.length) (by omega))) rfl ?_
      refine L_y (y_idx Try.underlying79 sz78 rfl rfl (S5.row 0 rfl) (Nt.mk rfl : Nt _ (qs.length)) (by omega)) rfl ?_
      refine L_y (y_ldp (f := bf) bf_len Try.underlying78 rfl sz78 rfl (S5.row 0 rfl) (by omega) hgx) rfl ?_
      refine L_o (o_alloc zz78 S5 rfl fun b6 w6 hb6 S6 => ?_)
      refine L_o (o_stW S6 3 rfl rfl rfl sz78 (by rfl) (by first | exact bf_one2 ⟨a, an, b, bn⟩ | (intro u hu; simp at hu; rcases hu with rfl | rfl | rfl | rfl <;> rfl)) fun w7 S7 => ?_)
      refine L_nil ?_
      refine hK8 _ _ ?_
      refine T_seq fun K9 hK9 => ?_
      refine T_region ?_
      refine L_y (y_move rfl) rfl ?_
      refine L_y (y_move rfl) rfl ?_
      refine L_y (y_len Try.underlying79 rfl) rfl ?_
      refine L_y (y_sub rfl rfl (i64e (k := qs.length) (by omega))) rfl ?_
      refine L_y (y_sliceH0 Try.underlying79 sz78 rfl rfl inferInstance (by omega)) rfl ?_
      refine L_y (y_assign rfl) rfl ?_
      refine L_nil ?_
      refine hK9 _ _ ?_
      refine T_seq fun K10 hK10 => ?_
      have S8 := S7.rowcut 0 rfl (m := qs.length) (by omega)
      have S9 := S8.rowc 0 rfl (n' := qs.length) (xs' := qs.flatMap bf) rfl (bf_take qs _)
      have S10 : St w0 _ [_, _, _, _] w7 := S9.sel [0, 3, 1, 2] (by decide)
      have S11 : St w0 _ [row 78 4 PA (qs).length pc ((qs).flatMap bf), blk b6 78 #[.int .i64 (a : Int), .int .i64 (an : Int), .int .i64 (b : Int), .int .i64 (bn : Int)], blk b1 25 #[.slice KA (ks).length kc], row 34 2 KA (ks).length kc ((ks).flatMap pf)] w7 := S10
      refine T_drawnL [(0, true), (1, true), (2, true), (3, true), (4, true), (5, true), (6, true), (7, true), (8, true), (9, true), (10, true), (11, true), (12, false), (13, true), (14, true), (15, true), (16, true), (17, true)] hmix (by kernel_rfl) fun w12 l12 => ?_
      have S12 := S11.like l12
      refine DL_y rfl (y_move rfl) rfl ?_
      refine DL_y rfl (y_fieldA 0 Try.underlying78 rfl sz3 rfl rfl rfl) rfl ?_
      refine DL_y rfl (y_ldc Try.underlying3 rfl rfl (((S12.blk 1 rfl).cell _).trans (by rfl))) rfl ?_
      refine DL_y rfl (y_fieldA 1 Try.underlying78 rfl sz3 rfl rfl rfl) rfl ?_
      refine DL_y rfl (y_ldc Try.underlying3 rfl rfl (((S12.blk 1 rfl).cell _).trans (by rfl))) rfl ?_
      refine DL_y rfl (y_slice Try.underlying22 sz3 rfl rfl rfl inferInstance inferInstance (by omega) (by omega)) rfl ?_
      refine DL_y rfl (y_move rfl) rfl ?_
      refine DL_y rfl (y_fieldA 2 Try.underlying78 rfl sz3 rfl rfl rfl) rfl ?_
      refine DL_y rfl (y_ldc Try.underlying3 rfl rfl (((S12.blk 1 rfl).cell _).trans (by rfl))) rfl ?_
      refine DL_y rfl (y_fieldA 3 Try.underlying78 rfl sz3 rfl rfl rfl) rfl ?_
      refine DL_y rfl (y_ldc Try.underlying3 rfl rfl (((S12.blk 1 rfl).cell _).trans (by rfl))) rfl ?_
      refine DL_y rfl (y_slice Try.underlying22 sz3 rfl rfl rfl inferInstance inferInstance (by omega) (by omega)) rfl ?_
      refine DL_o rfl (o_call Try.func52 rfl rfl (pends _ _ _ _ _ _ (sub la a an) (sub lb b bn) w12 (cutI (S12.rd ha) (i := a) (u := an) (by omega) (by omega)) (cutI (S12.rd hb) (i := b) (u := bn) (by omega) (by omega))) rfl rfl ?_)
      rintro e13 w13 ⟨v13, rfl, l13, rfl⟩
      refine ⟨_, rfl, l13, ?_⟩
      have S13 := S12.like l13
      generalize hf : pre (sub la a an) (sub lb b bn) = f
      generalize ht : suf (sub la a an) (sub lb b bn) = t
      have hDD : HB KM la lb ⟨a, an, b, bn⟩ = dg a b f ++ ((mv (a + f) (b + f) (coreH KM (DH KM) (sub la (a + f) (an - t)) (sub lb (b + f) (bn - t)))) ++ dg (an - t) (bn - t) t) ∧ a + f + t ≤ an ∧ b + f + t ≤ bn := HB_eq (x := ⟨a, an, b, bn⟩) hbx hf ht
      obtain ⟨hDB, hf1, hf2⟩ := hDD
      have hT2 : ks.length + (f + ((mv (a + f) (b + f) (coreH KM (DH KM) (sub la (a + f) (an - t)) (sub lb (b + f) (bn - t)))).length + t)) + (qs.flatMap (HB KM la lb)).length ≤ 4096 := by rw [hDB] at hT; simp only [List.length_append, dg_len] at hT; omega
      have hXl : (sub la (a + f) (an - t)).length = an - t - (a + f) := sub_len (by omega)
      have hYl : (sub lb (b + f) (bn - t)).length = bn - t - (b + f) := sub_len (by omega)
      have q13 := l13
      refine DL_y rfl (y_move rfl) rfl ?_
      refine DL_y rfl (y_extract rfl rfl) rfl ?_
      refine DL_y rfl (y_extract rfl rfl) rfl ?_
      refine DL_y rfl (y_assign rfl) rfl ?_
      refine DL_y rfl (y_assign rfl) rfl ?_
      refine DL_nil ?_
      refine hK10 _ _ ?_
      refine T_seq fun K11 hK11 => ?_
      have S14 : St w0 _ [_, _, _, _] w13 := S13.sel [0, 1, 2, 3] (by decide)
      refine T_region ?_
      refine L_y (y_move rfl) rfl ?_
      refine L_y (y_fieldA 0 Try.underlying78 rfl sz3 rfl rfl rfl) rfl ?_
      refine L_y (y_ldc Try.underlying3 rfl rfl (((S14.blk 1 rfl).cell _).trans (by rfl))) rfl ?_
      refine L_y (y_fieldA 2 Try.underlying78 rfl sz3 rfl rfl rfl) rfl ?_
      refine L_y (y_ldc Try.underlying3 rfl rfl (((S14.blk 1 rfl).cell _).trans (by rfl))) rfl ?_
      refine L_y (y_move rfl) rfl ?_
      refine L_o (o_callv rfl Try.func51 rfl rfl (hkeep b1 KA kc (ks) (a) (b) (f) w13 (St.getL (ps := [_, _]) (rs := [_, _]) S14) (by omega) (by omega) (by first | omega | (simp only [List.length_append, dg_len, mv_len, List.length_take]; omega))) rfl rfl (fun d' hd => by cases hd <;> rfl) ?_)
      rintro e15 w15 ⟨v15, rfl, KK15, kc15, rfl, T15⟩
      refine ⟨_, rfl, ?_⟩
      have S15 := St.turnL (ps := [_, _]) (rs := [_, _]) (rs' := [_, _]) S14 T15
      have S16 : St w0 _ [_, _, blk b1 25 #[.slice KK15 (ks ++ dg (a) (b) (f)).length kc15], row 34 2 KK15 (ks ++ dg (a) (b) (f)).length kc15 ((ks ++ dg (a) (b) (f)).flatMap pf)] w15 := S15
      refine L_nil ?_
      refine hK11 _ _ ?_
      refine T_seq fun K12 hK12 => ?_
      have S17 : St w0 _ [_, _, _, _] w15 := S16.sel [0, 1, 2, 3] (by decide)
      refine T_region ?_
      refine L_y (y_move rfl) rfl ?_
      refine L_y (y_fieldA 1 Try.underlying78 rfl sz3 rfl rfl rfl) rfl ?_
      refine L_y (y_ldc Try.underlying3 rfl rfl (((S17.blk 1 rfl).cell _).trans (by rfl))) rfl ?_
      refine L_y (y_move rfl) rfl ?_
      refine L_y (y_sub rfl rfl (i64e (k := an - t) (by omega))) rfl ?_
      refine L_y (y_fieldA 3 Try.underlying78 rfl sz3 rfl rfl rfl) rfl ?_
      refine L_y (y_ldc Try.underlying3 rfl rfl (((S17.blk 1 rfl).cell _).trans (by rfl))) rfl ?_
      refine L_y (y_move rfl) rfl ?_
      refine L_y (y_sub rfl rfl (i64e (k := bn - t) (by omega))) rfl ?_
      refine L_y (y_move rfl) rfl ?_
      refine L_o (o_callv rfl Try.func51 rfl rfl (hkeep b1 KK15 kc15 (ks ++ dg (a) (b) (f)) (an - t) (bn - t) (t) w15 (St.getL (ps := [_, _]) (rs := [_, _]) S17) (by omega) (by omega) (by first | omega | (simp only [List.length_append, dg_len, mv_len, List.length_take]; omega))) rfl rfl (fun d' hd => by cases hd <;> rfl) ?_)
      rintro e18 w18 ⟨v18, rfl, KK18, kc18, rfl, T18⟩
      refine ⟨_, rfl, ?_⟩
      have S18 := St.turnL (ps := [_, _]) (rs := [_, _]) (rs' := [_, _]) S17 T18
      have S19 : St w0 _ [_, _, blk b1 25 #[.slice KK18 (ks ++ dg (a) (b) (f) ++ dg (an - t) (bn - t) (t)).length kc18], row 34 2 KK18 (ks ++ dg (a) (b) (f) ++ dg (an - t) (bn - t) (t)).length kc18 ((ks ++ dg (a) (b) (f) ++ dg (an - t) (bn - t) (t)).flatMap pf)] w18 := S18
      refine L_nil ?_
      refine hK12 _ _ ?_
      refine T_seq fun K13 hK13 => ?_
      refine T_region ?_
      refine L_y (y_fieldA 0 Try.underlying78 rfl sz3 rfl rfl rfl) rfl ?_
      refine L_y (y_ldc Try.underlying3 rfl rfl (((S19.blk 1 rfl).cell _).trans (by rfl))) rfl ?_
      refine L_y (y_move rfl) rfl ?_
      refine L_y (y_add rfl rfl (i64e (k := a + f) (by omega))) rfl ?_
      refine L_y (y_fieldA 1 Try.underlying78 rfl sz3 rfl rfl rfl) rfl ?_
      refine L_y (y_ldc Try.underlying3 rfl rfl (((S19.blk 1 rfl).cell _).trans (by rfl))) rfl ?_
      refine L_y (y_move rfl) rfl ?_
      refine L_y (y_sub rfl rfl (i64e (k := an - t) (by omega))) rfl ?_
      refine L_y (y_fieldA 2 Try.underlying78 rfl sz3 rfl rfl rfl) rfl ?_
      refine L_y (y_ldc Try.underlying3 rfl rfl (((S19.blk 1 rfl).cell _).trans (by rfl))) rfl ?_
      refine L_y (y_move rfl) rfl ?_
      refine L_y (y_add rfl rfl (i64e (k := b + f) (by omega))) rfl ?_
      refine L_y (y_fieldA 3 Try.underlying78 rfl sz3 rfl rfl rfl) rfl ?_
      refine L_y (y_ldc Try.underlying3 rfl rfl (((S19.blk 1 rfl).cell _).trans (by rfl))) rfl ?_
      refine L_y (y_move rfl) rfl ?_
      refine L_y (y_sub rfl rfl (i64e (k := bn - t) (by omega))) rfl ?_
      refine L_y (y_build rfl (show _ = some #[.int .i64 ((a + f : Nat) : Int), .int .i64 ((an - t : Nat) : Int), .int .i64 ((b + f : Nat) : Int), .int .i64 ((bn - t : Nat) : Int)] by rfl)) rfl ?_
      refine L_o (o_stW S19 1 rfl rfl rfl sz78 (by rfl) (by first | exact bf_one2 ⟨a, an, b, bn⟩ | (intro u hu; simp at hu; rcases hu with rfl | rfl | rfl | rfl <;> rfl)) fun w20 S20 => ?_)
      refine L_nil ?_
      refine hK13 _ _ ?_
      refine T_seq fun K14 hK14 => ?_
      have S21 : St w0 _ [_, blk b6 78 #[.int .i64 ((a + f : Nat) : Int), .int .i64 ((an - t : Nat) : Int), .int .i64 ((b + f : Nat) : Int), .int .i64 ((bn - t : Nat) : Int)], _, _] w20 := S20
      refine T_drawnX (fun w => Blk w b6 78 #[.int .i64 ((a + f : Nat) : Int), .int .i64 ((an - t : Nat) : Int), .int .i64 ((b + f : Nat) : Int), .int .i64 ((bn - t : Nat) : Int)]) hmix (by kernel_rfl) (fun w l => (S21.like l).blk 1 rfl) fun w22 l22 => ?_
      have S22 := S21.like l22
      refine DX_y 0 (by kernel_rfl) rfl (y_move rfl) rfl ?_
      refine DX_y 1 (by kernel_rfl) rfl (y_fieldA 0 Try.underlying78 rfl sz3 rfl rfl rfl) rfl ?_
      refine DX_y 2 (by kernel_rfl) rfl (y_of fun w hw => y_ldc Try.underlying3 rfl rfl (((hw).cell _).trans (by rfl))) rfl ?_
      refine DX_y 3 (by kernel_rfl) rfl (y_fieldA 1 Try.underlying78 rfl sz3 rfl rfl rfl) rfl ?_
      refine DX_y 4 (by kernel_rfl) rfl (y_of fun w hw => y_ldc Try.underlying3 rfl rfl (((hw).cell _).trans (by rfl))) rfl ?_
      refine DX_y 5 (by kernel_rfl) rfl (y_slice Try.underlying22 sz3 rfl rfl rfl inferInstance inferInstance (by omega) (by omega)) rfl ?_
      refine DX_y 6 (by kernel_rfl) rfl (y_move rfl) rfl ?_
      refine DX_y 7 (by kernel_rfl) rfl (y_fieldA 2 Try.underlying78 rfl sz3 rfl rfl rfl) rfl ?_
      refine DX_y 8 (by kernel_rfl) rfl (y_of fun w hw => y_ldc Try.underlying3 rfl rfl (((hw).cell _).trans (by rfl))) rfl ?_
      refine DX_y 9 (by kernel_rfl) rfl (y_fieldA 3 Try.underlying78 rfl sz3 rfl rfl rfl) rfl ?_
      refine DX_y 10 (by kernel_rfl) rfl (y_of fun w hw => y_ldc Try.underlying3 rfl rfl (((hw).cell _).trans (by rfl))) rfl ?_
      refine DX_y 11 (by kernel_rfl) rfl (y_slice Try.underlying22 sz3 rfl rfl rfl inferInstance inferInstance (by omega) (by omega)) rfl ?_
      refine DX_o2 12 16 (by kernel_rfl) rfl rfl ?_ ?_
      ·
        refine o_call Try.func42 rfl rfl (hbest _ _ _ _ _ _ (sub la (a + f) (an - t)) (sub lb (b + f) (bn - t)) w22 (cutI (S22.rd ha) (i := a + f) (u := an - t) (by omega) (by omega)) (cutI (S22.rd hb) (i := b + f) (u := bn - t) (by omega) (by omega)) (by omega) (by omega)) rfl rfl ?_
        rintro e23 w23 ⟨v23, rfl, l23, rfl⟩
        refine ⟨_, rfl, ?_⟩
        have S23 := S22.like l23
        have hbo := bst_ok (sub la (a + f) (an - t)) (sub lb (b + f) (bn - t))
        refine ⟨S23.blk 1 rfl, ?_⟩
        refine DX_y 13 (by kernel_rfl) rfl (y_move rfl) rfl ?_
        refine DX_y 14 (by kernel_rfl) rfl (y_extract rfl rfl) rfl ?_
        refine DX_y 15 (by kernel_rfl) rfl (y_extract rfl rfl) rfl ?_
        refine DX_o1 16 (by kernel_rfl) rfl ?_
        refine o_alloc zz43 S23 rfl fun b24 w24 hb24 S24 => ?_
        refine ⟨S24.blk 1 rfl, ?_⟩
        refine DX_o1 17 (by kernel_rfl) rfl ?_
        refine o_stW S24 4 rfl rfl rfl sz43 (by rfl) (ptf_one1 _) fun w25 S25 => ?_
        refine ⟨S25.blk 1 rfl, ?_⟩
        refine DX_y 18 (by kernel_rfl) rfl (y_assign rfl) rfl ?_
        refine DX_nil (by kernel_rfl) ?_
        refine hK14 _ _ ?_
        refine T_block ?_
        refine T_seq fun K15 hK15 => ?_
        refine T_region ?_
        refine L_y (y_move rfl) rfl ?_
        refine L_y ((by first | exact y_notD rfl | exact y_not rfl)) rfl ?_
        refine L_y (y_assign rfl) rfl ?_
        refine L_nil ?_
        refine hK15 _ _ ?_
        refine T_cond rfl (fun h146 => ?_) (fun h146 => ?_)
        ·
          have hN0 : (bst (sub la (a + f) (an - t)) (sub lb (b + f) (bn - t))).N = 0 := by omega
          refine T_skip ?_
          have S26 : St w0 _ [_, _, _] w25 := S25.sel [0, 2, 3] (by decide)
          have hM : (mv (a + f) (b + f) (coreH KM (DH KM) (sub la (a + f) (an - t)) (sub lb (b + f) (bn - t)))) = [] := by unfold coreH; rw [if_pos hN0]; rfl
          have hfin : (((ks ++ dg a b f) ++ dg (an - t) (bn - t) t) ++ (qs.flatMap (HB KM la lb))).Perm (ks ++ (HB KM la lb ⟨a, an, b, bn⟩ ++ (qs.flatMap (HB KM la lb)))) := by
            rw [hDB]
            have h := perm_one ks (dg a b f) (mv (a + f) (b + f) (coreH KM (DH KM) (sub la (a + f) (an - t)) (sub lb (b + f) (bn - t)))) (dg (an - t) (bn - t) t) (qs.flatMap (HB KM la lb))
            rw [hM, List.append_nil] at h
            rw [hM]
            exact h
          refine ⟨PA, pc, qs, _, _, _, by omega, ⟨⟨hbq, by omega, perm_pop hfin hpm9⟩, S26⟩, ?_⟩
          exact (Sub.cons rfl (by first | rfl | exact congrArg (Value.slice _ · _) (len_two _ _ _)) (Sub.cons rfl rfl (Sub.cons rfl rfl (Sub.cons rfl rfl (Sub.cons rfl rfl (Sub.nil _))))))
        ·
          have hN0 : ¬ (bst (sub la (a + f) (an - t)) (sub lb (b + f) (bn - t))).N = 0 := by omega
          obtain ⟨hbo1, hbo2, _⟩ := hbo hN0
          refine T_seq fun K16 hK16 => ?_
          refine T_region ?_
          refine L_y (y_fieldA 3 Try.underlying43 rfl sz3 rfl rfl rfl) rfl ?_
          refine L_y (y_ldc Try.underlying3 rfl rfl (((S25.blk 4 rfl).cell _).trans (by rfl))) rfl ?_
          refine L_y (y_gtr rfl rfl) rfl ?_
          refine L_y (y_assign rfl) rfl ?_
          refine L_nil ?_
          refine hK16 _ _ ?_
          refine T_cond rfl (fun h149 => ?_) (fun h149 => ?_)
          ·
            have hM : (mv (a + f) (b + f) (coreH KM (DH KM) (sub la (a + f) (an - t)) (sub lb (b + f) (bn - t)))) = mv (a + f) (b + f) (KM (sub la (a + f) (an - t)) (sub lb (b + f) (bn - t))) := by unfold coreH; rw [if_neg hN0, if_pos (by omega)]
            have hml : (mv (a + f) (b + f) (coreH KM (DH KM) (sub la (a + f) (an - t)) (sub lb (b + f) (bn - t)))).length = (KM (sub la (a + f) (an - t)) (sub lb (b + f) (bn - t))).length := by rw [hM, mv_len]
            refine T_seq fun K17 hK17 => ?_
            refine T_drawnL [(0, true), (1, true), (2, true), (3, true), (4, true), (5, true), (6, true), (7, true), (8, true), (9, true), (10, true), (11, true), (12, false), (13, true), (14, true), (15, true), (16, true), (17, true)] hmix (by kernel_rfl) fun w27 l27 => ?_
            have S27 := S25.like l27
            refine DL_y rfl (y_move rfl) rfl ?_
            refine DL_y rfl (y_fieldA 0 Try.underlying78 rfl sz3 rfl rfl rfl) rfl ?_
            refine DL_y rfl (y_ldc Try.underlying3 rfl rfl (((S27.blk 1 rfl).cell _).trans (by rfl))) rfl ?_
            refine DL_y rfl (y_fieldA 1 Try.underlying78 rfl sz3 rfl rfl rfl) rfl ?_
            refine DL_y rfl (y_ldc Try.underlying3 rfl rfl (((S27.blk 1 rfl).cell _).trans (by rfl))) rfl ?_
            refine DL_y rfl (y_slice Try.underlying22 sz3 rfl rfl rfl inferInstance inferInstance (by omega) (by omega)) rfl ?_
            refine DL_y rfl (y_move rfl) rfl ?_
            refine DL_y rfl (y_fieldA 2 Try.underlying78 rfl sz3 rfl rfl rfl) rfl ?_
            refine DL_y rfl (y_ldc Try.underlying3 rfl rfl (((S27.blk 1 rfl).cell _).trans (by rfl))) rfl ?_
            refine DL_y rfl (y_fieldA 3 Try.underlying78 rfl sz3 rfl rfl rfl) rfl ?_
            refine DL_y rfl (y_ldc Try.underlying3 rfl rfl (((S27.blk 1 rfl).cell _).trans (by rfl))) rfl ?_
            refine DL_y rfl (y_slice Try.underlying22 sz3 rfl rfl rfl inferInstance inferInstance (by omega) (by omega)) rfl ?_
            refine DL_o rfl (o_call Try.func53 rfl rfl (fdiff _ _ _ _ _ _ (sub la (a + f) (an - t)) (sub lb (b + f) (bn - t)) w27 (cutI (S27.rd ha) (i := a + f) (u := an - t) (by omega) (by omega)) (cutI (S27.rd hb) (i := b + f) (u := bn - t) (by omega) (by omega)) (by omega) (by omega)) rfl rfl ?_)
            rintro e28 w28 ⟨v28, rfl, l28, A28, n28, c28, rfl, O28⟩
            refine ⟨_, rfl, l28, ?_⟩
            have S28 := S27.adopt l28 O28
            have hdn : n28 = (KM (sub la (a + f) (an - t)) (sub lb (b + f) (bn - t))).length := pf_n (S28.row 5 rfl)
            have q28 := l28
            refine DL_y rfl (y_move rfl) rfl ?_
            refine DL_y rfl (y_extract rfl rfl) rfl ?_
            refine DL_y rfl (y_extract rfl rfl) rfl ?_
            refine DL_y rfl (y_assign rfl) rfl ?_
            refine DL_y rfl (y_assign rfl) rfl ?_
            refine DL_nil ?_
            refine hK17 _ _ ?_
            refine T_seq fun K18 hK18 => ?_
            have S29 : St w0 _ [_, _, _, _, _] w28 := S28.sel [0, 1, 5, 2, 3] (by decide)
            refine T_region ?_
            refine L_y (y_move rfl) rfl ?_
            refine L_y (y_len Try.underlying25 rfl) rfl ?_
            refine L_y (y_move rfl) rfl ?_
            refine L_nil ?_
            refine hK18 _ _ ?_
            refine T_block ?_
            refine T_loop3 [(0, _), (1, _), (5, _), (6, _), (7, _), (8, _), (169, _), (170, _)] (fun (j : Nat) (K1 : Option Addr) (c1 : Nat) => [(171, .int .i64 (j : Int))]) (fun (j : Nat) (K1 : Option Addr) (c1 : Nat) => (KM (sub la (a + f) (an - t)) (sub lb (b + f) (bn - t))).length - j) (fun (j : Nat) (K1 : Option Addr) (c1 : Nat) (w : World) => j ≤ (KM (sub la (a + f) (an - t)) (sub lb (b + f) (bn - t))).length ∧ St w0 noM [row 78 4 PA (qs).length pc ((qs).flatMap bf), blk b6 78 #[.int .i64 ((a + f : Nat) : Int), .int .i64 ((an - t : Nat) : Int), .int .i64 ((b + f : Nat) : Int), .int .i64 ((bn - t : Nat) : Int)], row 34 2 A28 n28 c28 ((KM (sub la (a + f) (an - t)) (sub lb (b + f) (bn - t))).flatMap pf), blk b1 25 #[.slice K1 (((ks ++ dg a b f) ++ dg (an - t) (bn - t) t) ++ mv (a + f) (b + f) ((KM (sub la (a + f) (an - t)) (sub lb (b + f) (bn - t))).take j)).length c1], row 34 2 K1 (((ks ++ dg a b f) ++ dg (an - t) (bn - t) t) ++ mv (a + f) (b + f) ((KM (sub la (a + f) (an - t)) (sub lb (b + f) (bn - t))).take j)).length c1 ((((ks ++ dg a b f) ++ dg (an - t) (bn - t) t) ++ mv (a + f) (b + f) ((KM (sub la (a + f) (an - t)) (sub lb (b + f) (bn - t))).take j)).flatMap pf)] w) 0 KK18 kc18 (Sub.cons rfl (by first | rfl | exact congrArg (Value.int _) (by omega)) (Sub.nil _)) (Sub.cons rfl rfl (Sub.cons rfl rfl (Sub.cons rfl rfl (Sub.cons rfl rfl (Sub.cons rfl rfl (Sub.cons rfl rfl (Sub.cons rfl rfl (Sub.cons rfl rfl (Sub.nil _))))))))) ?_ ?_
            ·
              exact ⟨Nat.zero_le _, by rw [List.take_zero, mv_nil, List.append_nil]; exact S29⟩
            ·
              intro j K1 c1 w30 hrel
              obtain ⟨hj, S30⟩ := hrel
              have hjl : ((KM (sub la (a + f) (an - t)) (sub lb (b + f) (bn - t))).take j).length = j := by rw [List.length_take]; omega
              refine T_seq fun K19 hK19 => ?_
              refine T_region ?_
              refine L_y (y_lss rfl rfl) rfl ?_
              refine L_nil ?_
              refine hK19 _ _ ?_
              refine T_seq fun K20 hK20 => ?_
              refine T_cond rfl (fun h172 => ?_) (fun h172 => ?_)
              ·
                obtain ⟨p, hp⟩ : ∃ p, (KM (sub la (a + f) (an - t)) (sub lb (b + f) (bn - t)))[j]? = some p := ⟨_, List.getElem?_eq_getElem (by omega)⟩
                have hpb := (keep_ok (sub la (a + f) (an - t)) (sub lb (b + f) (bn - t)) _ 0 0 rfl).1 p (List.mem_of_getElem? hp)
                refine T_skip ?_
                refine hK20 _ _ ?_
                refine T_seq fun K21 hK21 => ?_
                refine T_block ?_
                refine T_seq fun K22 hK22 => ?_
                refine T_region ?_
                refine L_y (y_idx Try.underlying25 sz34 rfl rfl (S30.row 2 rfl) (Nt.mk rfl : Nt _ (j)) (by omega)) rfl ?_
                refine L_y (y_ldp (f := pf) pf_len1 Try.underlying34 rfl sz34 rfl (S30.row 2 rfl) (by omega) hp) rfl ?_
                refine L_o (o_alloc zz34 S30 rfl fun b31 w31 hb31 S31 => ?_)
                refine L_o (o_stW S31 5 rfl rfl rfl sz34 (by rfl) (pf_one1 p) fun w32 S32 => ?_)
                refine L_nil ?_
                refine hK22 _ _ ?_
                have S33 : St w0 _ [_, _, _, _, _, _] w32 := S32.sel [0, 1, 2, 5, 3, 4] (by decide)
                refine T_region ?_
                refine L_y (y_move rfl) rfl ?_
                refine L_y (y_fieldA 0 Try.underlying78 rfl sz3 rfl rfl rfl) rfl ?_
                refine L_y (y_ldc Try.underlying3 rfl rfl (((S33.blk 1 rfl).cell _).trans (by rfl))) rfl ?_
                refine L_y (y_fieldA 0 Try.underlying34 rfl sz3 rfl rfl rfl) rfl ?_
                refine L_y (y_ldc Try.underlying3 rfl rfl (((S33.blk 3 rfl).cell _).trans (by rfl))) rfl ?_
                refine L_y (y_add rfl rfl (i64e (k := a + f + p.1) (by omega))) rfl ?_
                refine L_y (y_fieldA 2 Try.underlying78 rfl sz3 rfl rfl rfl) rfl ?_
                refine L_y (y_ldc Try.underlying3 rfl rfl (((S33.blk 1 rfl).cell _).trans (by rfl))) rfl ?_
                refine L_y (y_fieldA 1 Try.underlying34 rfl sz3 rfl rfl rfl) rfl ?_
                refine L_y (y_ldc Try.underlying3 rfl rfl (((S33.blk 3 rfl).cell _).trans (by rfl))) rfl ?_
                refine L_y (y_add rfl rfl (i64e (k := b + f + p.2) (by omega))) rfl ?_
                refine L_o (o_callv rfl Try.func51 rfl rfl (hkeep b1 K1 c1 (((ks ++ dg a b f) ++ dg (an - t) (bn - t) t) ++ mv (a + f) (b + f) ((KM (sub la (a + f) (an - t)) (sub lb (b + f) (bn - t))).take j)) (a + f + p.1) (b + f + p.2) (1) w32 (St.getL (ps := [_, _, _, _]) (rs := [_, _]) S33) (by omega) (by omega) (by first | omega | (simp only [List.length_append, dg_len, mv_len, List.length_take]; omega))) rfl rfl (fun d' hd => by cases hd <;> rfl) ?_)
                rintro e34 w34 ⟨v34, rfl, KK34, kc34, rfl, T34⟩
                refine ⟨_, rfl, ?_⟩
                have S34 := St.turnL (ps := [_, _, _, _]) (rs := [_, _]) (rs' := [_, _]) S33 T34
                have S35 : St w0 _ [_, _, _, _, blk b1 25 #[.slice KK34 (((ks ++ dg a b f) ++ dg (an - t) (bn - t) t) ++ mv (a + f) (b + f) ((KM (sub la (a + f) (an - t)) (sub lb (b + f) (bn - t))).take j) ++ dg (a + f + p.1) (b + f + p.2) (1)).length kc34], row 34 2 KK34 (((ks ++ dg a b f) ++ dg (an - t) (bn - t) t) ++ mv (a + f) (b + f) ((KM (sub la (a + f) (an - t)) (sub lb (b + f) (bn - t))).take j) ++ dg (a + f + p.1) (b + f + p.2) (1)).length kc34 ((((ks ++ dg a b f) ++ dg (an - t) (bn - t) t) ++ mv (a + f) (b + f) ((KM (sub la (a + f) (an - t)) (sub lb (b + f) (bn - t))).take j) ++ dg (a + f + p.1) (b + f + p.2) (1)).flatMap pf)] w34 := S34
                refine L_nil ?_
                refine hK21 _ _ ?_
                have S36 : St w0 _ [_, _, _, _, _] w34 := S35.sel [0, 1, 2, 4, 5] (by decide)
                refine T_region ?_
                refine L_y (y_add rfl rfl (i64w (by omega))) rfl ?_
                refine L_y (y_move rfl) rfl ?_
                refine L_nil ?_
                rw [List.append_assoc, dg_one, ← mv_snoc hp (a + f) (b + f)] at S36
                refine ⟨j + 1, _, _, by omega, ⟨by omega, S36⟩, ?_⟩
                exact (Sub.cons rfl (by first | rfl | exact congrArg (Value.int _) (by omega)) (Sub.cons rfl rfl (Sub.cons rfl rfl (Sub.cons rfl rfl (Sub.cons rfl rfl (Sub.cons rfl rfl (Sub.cons rfl rfl (Sub.cons rfl rfl (Sub.cons rfl rfl (Sub.nil _))))))))))
              ·
                refine T_exit ?_
                have S37 : St w0 _ [_, _, _] w30 := S30.sel [0, 3, 4] (by decide)
                have hje : j = (KM (sub la (a + f) (an - t)) (sub lb (b + f) (bn - t))).length := by omega
                subst hje
                have hfin : ((((ks ++ dg a b f) ++ dg (an - t) (bn - t) t) ++ mv (a + f) (b + f) ((KM (sub la (a + f) (an - t)) (sub lb (b + f) (bn - t))).take (KM (sub la (a + f) (an - t)) (sub lb (b + f) (bn - t))).length)) ++ (qs.flatMap (HB KM la lb))).Perm (ks ++ (HB KM la lb ⟨a, an, b, bn⟩ ++ (qs.flatMap (HB KM la lb)))) := by
                  rw [List.take_length, ← hM, hDB]
                  exact (perm_tail _ _ _).trans (perm_one _ _ _ _ _)
                refine ⟨PA, pc, qs, _, _, _, by omega, ⟨⟨hbq, by omega, perm_pop hfin hpm9⟩, S37⟩, ?_⟩
                exact (Sub.cons rfl (by first | rfl | exact congrArg (Value.slice _ · _) (len_two _ _ _)) (Sub.cons rfl rfl (Sub.cons rfl rfl (Sub.cons rfl rfl (Sub.cons rfl rfl (Sub.nil _))))))
          ·
            have hsp : (mv (a + f) (b + f) (coreH KM (DH KM) (sub la (a + f) (an - t)) (sub lb (b + f) (bn - t)))) = HB KM la lb (⟨a + f, a + f + (bst (sub la (a + f) (an - t)) (sub lb (b + f) (bn - t))).A, b + f, b + f + (bst (sub la (a + f) (an - t)) (sub lb (b + f) (bn - t))).B⟩ : BK) ++ (dg (a + f + (bst (sub la (a + f) (an - t)) (sub lb (b + f) (bn - t))).A) (b + f + (bst (sub la (a + f) (an - t)) (sub lb (b + f) (bn - t))).B) (bst (sub la (a + f) (an - t)) (sub lb (b + f) (bn - t))).N ++ HB KM la lb (⟨a + f + (bst (sub la (a + f) (an - t)) (sub lb (b + f) (bn - t))).A + (bst (sub la (a + f) (an - t)) (sub lb (b + f) (bn - t))).N, an - t, b + f + (bst (sub la (a + f) (an - t)) (sub lb (b + f) (bn - t))).B + (bst (sub la (a + f) (an - t)) (sub lb (b + f) (bn - t))).N, bn - t⟩ : BK)) := by unfold coreH; rw [if_neg hN0, if_neg (by omega)]; exact split_eq (by omega) (by omega)
            have hml := congrArg List.length hsp
            rw [List.length_append, List.length_append, dg_len] at hml
            refine T_seq fun K23 hK23 => ?_
            refine T_drawnL [(0, true), (1, true), (2, true), (3, true), (4, true), (5, true), (6, true), (7, true), (8, true), (9, true), (10, true), (11, true)] hmix (by kernel_rfl) fun w38 l38 => ?_
            have S38 := S25.like l38
            refine DL_y rfl (y_fieldA 0 Try.underlying78 rfl sz3 rfl rfl rfl) rfl ?_
            refine DL_y rfl (y_ldc Try.underlying3 rfl rfl (((S38.blk 1 rfl).cell _).trans (by rfl))) rfl ?_
            refine DL_y rfl (y_fieldA 0 Try.underlying43 rfl sz3 rfl rfl rfl) rfl ?_
            refine DL_y rfl (y_ldc Try.underlying3 rfl rfl (((S38.blk 4 rfl).cell _).trans (by rfl))) rfl ?_
            refine DL_y rfl (y_add rfl rfl (i64e (k := a + f + (bst (sub la (a + f) (an - t)) (sub lb (b + f) (bn - t))).A) (by omega))) rfl ?_
            refine DL_y rfl (y_fieldA 2 Try.underlying78 rfl sz3 rfl rfl rfl) rfl ?_
            refine DL_y rfl (y_ldc Try.underlying3 rfl rfl (((S38.blk 1 rfl).cell _).trans (by rfl))) rfl ?_
            refine DL_y rfl (y_fieldA 1 Try.underlying43 rfl sz3 rfl rfl rfl) rfl ?_
            refine DL_y rfl (y_ldc Try.underlying3 rfl rfl (((S38.blk 4 rfl).cell _).trans (by rfl))) rfl ?_
            refine DL_y rfl (y_add rfl rfl (i64e (k := b + f + (bst (sub la (a + f) (an - t)) (sub lb (b + f) (bn - t))).B) (by omega))) rfl ?_
            refine DL_y rfl (y_assign rfl) rfl ?_
            refine DL_y rfl (y_assign rfl) rfl ?_
            refine DL_nil ?_
            refine hK23 _ _ ?_
            refine T_seq fun K24 hK24 => ?_
            have S39 : St w0 _ [_, _, _, _, _] w38 := S38.sel [0, 1, 4, 2, 3] (by decide)
            refine T_region ?_
            refine L_y (y_move rfl) rfl ?_
            refine L_y (y_move rfl) rfl ?_
            refine L_y (y_move rfl) rfl ?_
            refine L_y (y_fieldA 2 Try.underlying43 rfl sz3 rfl rfl rfl) rfl ?_
            refine L_y (y_ldc Try.underlying3 rfl rfl (((S39.blk 2 rfl).cell _).trans (by rfl))) rfl ?_
            refine L_o (o_callv rfl Try.func51 rfl rfl (hkeep b1 KK18 kc18 (ks ++ dg (a) (b) (f) ++ dg (an - t) (bn - t) (t)) (a + f + (bst (sub la (a + f) (an - t)) (sub lb (b + f) (bn - t))).A) (b + f + (bst (sub la (a + f) (an - t)) (sub lb (b + f) (bn - t))).B) ((bst (sub la (a + f) (an - t)) (sub lb (b + f) (bn - t))).N) w38 (St.getL (ps := [_, _, _]) (rs := [_, _]) S39) (by omega) (by omega) (by first | omega | (simp only [List.length_append, dg_len, mv_len, List.length_take]; omega))) rfl rfl (fun d' hd => by cases hd <;> rfl) ?_)
            rintro e40 w40 ⟨v40, rfl, KK40, kc40, rfl, T40⟩
            refine ⟨_, rfl, ?_⟩
            have S40 := St.turnL (ps := [_, _, _]) (rs := [_, _]) (rs' := [_, _]) S39 T40
            have S41 : St w0 _ [_, _, _, blk b1 25 #[.slice KK40 (ks ++ dg (a) (b) (f) ++ dg (an - t) (bn - t) (t) ++ dg (a + f + (bst (sub la (a + f) (an - t)) (sub lb (b + f) (bn - t))).A) (b + f + (bst (sub la (a + f) (an - t)) (sub lb (b + f) (bn - t))).B) ((bst (sub la (a + f) (an - t)) (sub lb (b + f) (bn - t))).N)).length kc40], row 34 2 KK40 (ks ++ dg (a) (b) (f) ++ dg (an - t) (bn - t) (t) ++ dg (a + f + (bst (sub la (a + f) (an - t)) (sub lb (b + f) (bn - t))).A) (b + f + (bst (sub la (a + f) (an - t)) (sub lb (b + f) (bn - t))).B) ((bst (sub la (a + f) (an - t)) (sub lb (b + f) (bn - t))).N)).length kc40 ((ks ++ dg (a) (b) (f) ++ dg (an - t) (bn - t) (t) ++ dg (a + f + (bst (sub la (a + f) (an - t)) (sub lb (b + f) (bn - t))).A) (b + f + (bst (sub la (a + f) (an - t)) (sub lb (b + f) (bn - t))).B) ((bst (sub la (a + f) (an - t)) (sub lb (b + f) (bn - t))).N)).flatMap pf)] w40 := S40
            refine L_nil ?_
            refine hK24 _ _ ?_
            refine T_region ?_
            refine L_y (y_move rfl) rfl ?_
            refine L_y (y_fieldA 0 Try.underlying78 rfl sz3 rfl rfl rfl) rfl ?_
            refine L_y (y_ldc Try.underlying3 rfl rfl (((S41.blk 1 rfl).cell _).trans (by rfl))) rfl ?_
            refine L_y (y_move rfl) rfl ?_
            refine L_y (y_fieldA 2 Try.underlying78 rfl sz3 rfl rfl rfl) rfl ?_
            refine L_y (y_ldc Try.underlying3 rfl rfl (((S41.blk 1 rfl).cell _).trans (by rfl))) rfl ?_
            refine L_y (y_move rfl) rfl ?_
            refine L_y (y_build rfl (show _ = some #[Value.int .i64 ((a + f : Nat) : Int), Value.int .i64 ((a + f + (bst (sub la (a + f) (an - t)) (sub lb (b + f) (bn - t))).A : Nat) : Int), Value.int .i64 ((b + f : Nat) : Int), Value.int .i64 ((b + f + (bst (sub la (a + f) (an - t)) (sub lb (b + f) (bn - t))).B : Nat) : Int)] by rfl)) rfl ?_
            refine L_y (y_move rfl) rfl ?_
            refine L_y (y_fieldA 2 Try.underlying43 rfl sz3 rfl rfl rfl) rfl ?_
            refine L_y (y_ldc Try.underlying3 rfl rfl (((S41.blk 2 rfl).cell _).trans (by rfl))) rfl ?_
            refine L_y (y_add rfl rfl (i64e (k := a + f + (bst (sub la (a + f) (an - t)) (sub lb (b + f) (bn - t))).A + (bst (sub la (a + f) (an - t)) (sub lb (b + f) (bn - t))).N) (by omega))) rfl ?_
            refine L_y (y_fieldA 1 Try.underlying78 rfl sz3 rfl rfl rfl) rfl ?_
            refine L_y (y_ldc Try.underlying3 rfl rfl (((S41.blk 1 rfl).cell _).trans (by rfl))) rfl ?_
            refine L_y (y_move rfl) rfl ?_
            refine L_y (y_fieldA 2 Try.underlying43 rfl sz3 rfl rfl rfl) rfl ?_
            refine L_y (y_ldc Try.underlying3 rfl rfl (((S41.blk 2 rfl).cell _).trans (by rfl))) rfl ?_
            refine L_y (y_add rfl rfl (i64e (k := b + f + (bst (sub la (a + f) (an - t)) (sub lb (b + f) (bn - t))).B + (bst (sub la (a + f) (an - t)) (sub lb (b + f) (bn - t))).N) (by omega))) rfl ?_
            refine L_y (y_fieldA 3 Try.underlying78 rfl sz3 rfl rfl rfl) rfl ?_
            refine L_y (y_ldc Try.underlying3 rfl rfl (((S41.blk 1 rfl).cell _).trans (by rfl))) rfl ?_
            refine L_y (y_build rfl (show _ = some #[Value.int .i64 ((a + f + (bst (sub la (a + f) (an - t)) (sub lb (b + f) (bn - t))).A + (bst (sub la (a + f) (an - t)) (sub lb (b + f) (bn - t))).N : Nat) : Int), Value.int .i64 ((an - t : Nat) : Int), Value.int .i64 ((b + f + (bst (sub la (a + f) (an - t)) (sub lb (b + f) (bn - t))).B + (bst (sub la (a + f) (an - t)) (sub lb (b + f) (bn - t))).N : Nat) : Int), Value.int .i64 ((bn - t : Nat) : Int)] by rfl)) rfl ?_
            refine L_o (o_bsl [_, _, _, _, _, _, _, _] te79 zz78 S41 rfl rfl rfl rfl rfl rfl rfl rfl fun b42 w42 S42 => ?_)
            refine L_o (o_app te79 S42 0 rfl rfl rfl (by first | exact S42.row 0 rfl | exact S42.row 4 rfl | exact S42.row 5 rfl) (bf_one3 ⟨a + f, a + f + (bst (sub la (a + f) (an - t)) (sub lb (b + f) (bn - t))).A, b + f, b + f + (bst (sub la (a + f) (an - t)) (sub lb (b + f) (bn - t))).B⟩ ⟨a + f + (bst (sub la (a + f) (an - t)) (sub lb (b + f) (bn - t))).A + (bst (sub la (a + f) (an - t)) (sub lb (b + f) (bn - t))).N, an - t, b + f + (bst (sub la (a + f) (an - t)) (sub lb (b + f) (bn - t))).B + (bst (sub la (a + f) (an - t)) (sub lb (b + f) (bn - t))).N, bn - t⟩) rfl (by omega) (by omega) fun A43 c43 w43 S43 => ?_)
            have S43d := S43.drop (rs' := [_, _, _, _, _]) (.cons_cons _ (.cons_cons _ (.cons_cons _ (.cons_cons _ (.cons_cons _ (.cons _ (.refl _)))))))
            refine L_y (y_assign rfl) rfl ?_
            refine L_nil ?_
            have S44 : St w0 _ [_, _, _] w43 := S43d.sel [0, 3, 4] (by decide)
            have S45 := S44.rowc 0 rfl (n' := (qs ++ [(⟨a + f, a + f + (bst (sub la (a + f) (an - t)) (sub lb (b + f) (bn - t))).A, b + f, b + f + (bst (sub la (a + f) (an - t)) (sub lb (b + f) (bn - t))).B⟩ : BK), (⟨a + f + (bst (sub la (a + f) (an - t)) (sub lb (b + f) (bn - t))).A + (bst (sub la (a + f) (an - t)) (sub lb (b + f) (bn - t))).N, an - t, b + f + (bst (sub la (a + f) (an - t)) (sub lb (b + f) (bn - t))).B + (bst (sub la (a + f) (an - t)) (sub lb (b + f) (bn - t))).N, bn - t⟩ : BK)]).length) (xs' := (qs ++ [(⟨a + f, a + f + (bst (sub la (a + f) (an - t)) (sub lb (b + f) (bn - t))).A, b + f, b + f + (bst (sub la (a + f) (an - t)) (sub lb (b + f) (bn - t))).B⟩ : BK), (⟨a + f + (bst (sub la (a + f) (an - t)) (sub lb (b + f) (bn - t))).A + (bst (sub la (a + f) (an - t)) (sub lb (b + f) (bn - t))).N, an - t, b + f + (bst (sub la (a + f) (an - t)) (sub lb (b + f) (bn - t))).B + (bst (sub la (a + f) (an - t)) (sub lb (b + f) (bn - t))).N, bn - t⟩ : BK)]).flatMap bf) (len_two _ _ _) (bf_snoc2 qs (⟨a + f, a + f + (bst (sub la (a + f) (an - t)) (sub lb (b + f) (bn - t))).A, b + f, b + f + (bst (sub la (a + f) (an - t)) (sub lb (b + f) (bn - t))).B⟩ : BK) (⟨a + f + (bst (sub la (a + f) (an - t)) (sub lb (b + f) (bn - t))).A + (bst (sub la (a + f) (an - t)) (sub lb (b + f) (bn - t))).N, an - t, b + f + (bst (sub la (a + f) (an - t)) (sub lb (b + f) (bn - t))).B + (bst (sub la (a + f) (an - t)) (sub lb (b + f) (bn - t))).N, bn - t⟩ : BK))
            have hW2 := Wt_two qs (⟨a + f, a + f + (bst (sub la (a + f) (an - t)) (sub lb (b + f) (bn - t))).A, b + f, b + f + (bst (sub la (a + f) (an - t)) (sub lb (b + f) (bn - t))).B⟩ : BK) (⟨a + f + (bst (sub la (a + f) (an - t)) (sub lb (b + f) (bn - t))).A + (bst (sub la (a + f) (an - t)) (sub lb (b + f) (bn - t))).N, an - t, b + f + (bst (sub la (a + f) (an - t)) (sub lb (b + f) (bn - t))).B + (bst (sub la (a + f) (an - t)) (sub lb (b + f) (bn - t))).N, bn - t⟩ : BK)
            have hw1 : wt (⟨a + f, a + f + (bst (sub la (a + f) (an - t)) (sub lb (b + f) (bn - t))).A, b + f, b + f + (bst (sub la (a + f) (an - t)) (sub lb (b + f) (bn - t))).B⟩ : BK) = (a + f + (bst (sub la (a + f) (an - t)) (sub lb (b + f) (bn - t))).A - (a + f)) + (b + f + (bst (sub la (a + f) (an - t)) (sub lb (b + f) (bn - t))).B - (b + f)) + 1 := rfl
            have hw2 : wt (⟨a + f + (bst (sub la (a + f) (an - t)) (sub lb (b + f) (bn - t))).A + (bst (sub la (a + f) (an - t)) (sub lb (b + f) (bn - t))).N, an - t, b + f + (bst (sub la (a + f) (an - t)) (sub lb (b + f) (bn - t))).B + (bst (sub la (a + f) (an - t)) (sub lb (b + f) (bn - t))).N, bn - t⟩ : BK) = (an - t - (a + f + (bst (sub la (a + f) (an - t)) (sub lb (b + f) (bn - t))).A + (bst (sub la (a + f) (an - t)) (sub lb (b + f) (bn - t))).N)) + (bn - t - (b + f + (bst (sub la (a + f) (an - t)) (sub lb (b + f) (bn - t))).B + (bst (sub la (a + f) (an - t)) (sub lb (b + f) (bn - t))).N)) + 1 := rfl
            have hbk2 : ∀ z ∈ qs ++ [(⟨a + f, a + f + (bst (sub la (a + f) (an - t)) (sub lb (b + f) (bn - t))).A, b + f, b + f + (bst (sub la (a + f) (an - t)) (sub lb (b + f) (bn - t))).B⟩ : BK), (⟨a + f + (bst (sub la (a + f) (an - t)) (sub lb (b + f) (bn - t))).A + (bst (sub la (a + f) (an - t)) (sub lb (b + f) (bn - t))).N, an - t, b + f + (bst (sub la (a + f) (an - t)) (sub lb (b + f) (bn - t))).B + (bst (sub la (a + f) (an - t)) (sub lb (b + f) (bn - t))).N, bn - t⟩ : BK)], BKok la.length lb.length z := fun z hz => by
              rcases List.mem_append.1 hz with hz | hz
              · exact hbq z hz
              · simp only [List.mem_cons, List.not_mem_nil, or_false] at hz
                rcases hz with rfl | rfl
                · exact ⟨by show a + f ≤ a + f + _; omega, by show a + f + (bst (sub la (a + f) (an - t)) (sub lb (b + f) (bn - t))).A ≤ _; omega, by show b + f ≤ b + f + _; omega, by show b + f + (bst (sub la (a + f) (an - t)) (sub lb (b + f) (bn - t))).B ≤ _; omega⟩
                · exact ⟨by show a + f + (bst (sub la (a + f) (an - t)) (sub lb (b + f) (bn - t))).A + (bst (sub la (a + f) (an - t)) (sub lb (b + f) (bn - t))).N ≤ an - t; omega, by show an - t ≤ _; omega, by show b + f + (bst (sub la (a + f) (an - t)) (sub lb (b + f) (bn - t))).B + (bst (sub la (a + f) (an - t)) (sub lb (b + f) (bn - t))).N ≤ bn - t; omega, by show bn - t ≤ _; omega⟩
            have hfin : ((((ks ++ dg a b f) ++ dg (an - t) (bn - t) t) ++ dg (a + f + (bst (sub la (a + f) (an - t)) (sub lb (b + f) (bn - t))).A) (b + f + (bst (sub la (a + f) (an - t)) (sub lb (b + f) (bn - t))).B) (bst (sub la (a + f) (an - t)) (sub lb (b + f) (bn - t))).N) ++ (qs ++ [(⟨a + f, a + f + (bst (sub la (a + f) (an - t)) (sub lb (b + f) (bn - t))).A, b + f, b + f + (bst (sub la (a + f) (an - t)) (sub lb (b + f) (bn - t))).B⟩ : BK), (⟨a + f + (bst (sub la (a + f) (an - t)) (sub lb (b + f) (bn - t))).A + (bst (sub la (a + f) (an - t)) (sub lb (b + f) (bn - t))).N, an - t, b + f + (bst (sub la (a + f) (an - t)) (sub lb (b + f) (bn - t))).B + (bst (sub la (a + f) (an - t)) (sub lb (b + f) (bn - t))).N, bn - t⟩ : BK)]).flatMap (HB KM la lb)).Perm (ks ++ (HB KM la lb ⟨a, an, b, bn⟩ ++ (qs.flatMap (HB KM la lb)))) := by
              rw [flat_two, hDB]
              refine (perm_mid2 _ _ _ _ _).trans ?_
              rw [hsp]
              exact perm_one _ _ _ _ _
            refine ⟨A43, c43, qs ++ [(⟨a + f, a + f + (bst (sub la (a + f) (an - t)) (sub lb (b + f) (bn - t))).A, b + f, b + f + (bst (sub la (a + f) (an - t)) (sub lb (b + f) (bn - t))).B⟩ : BK), (⟨a + f + (bst (sub la (a + f) (an - t)) (sub lb (b + f) (bn - t))).A + (bst (sub la (a + f) (an - t)) (sub lb (b + f) (bn - t))).N, an - t, b + f + (bst (sub la (a + f) (an - t)) (sub lb (b + f) (bn - t))).B + (bst (sub la (a + f) (an - t)) (sub lb (b + f) (bn - t))).N, bn - t⟩ : BK)], _, _, _, by omega, ⟨⟨hbk2, by omega, perm_pop hfin hpm9⟩, S45⟩, ?_⟩
            exact (Sub.cons rfl (by first | rfl | exact congrArg (Value.slice _ · _) (len_two _ _ _)) (Sub.cons rfl rfl (Sub.cons rfl rfl (Sub.cons rfl rfl (Sub.cons rfl rfl (Sub.nil _))))))
      ·
        refine o_alloc zz43 S22 rfl fun b46 w46 hb46 S46 => ?_
        refine ⟨S46.blk 1 rfl, ?_⟩
        refine DX_o1 12 (by kernel_rfl) rfl ?_
        refine o_call Try.func42 rfl rfl (hbest _ _ _ _ _ _ (sub la (a + f) (an - t)) (sub lb (b + f) (bn - t)) w46 (cutI (S46.rd ha) (i := a + f) (u := an - t) (by omega) (by omega)) (cutI (S46.rd hb) (i := b + f) (u := bn - t) (by omega) (by omega)) (by omega) (by omega)) rfl rfl ?_
        rintro e47 w47 ⟨v47, rfl, l47, rfl⟩
        refine ⟨_, rfl, ?_⟩
        have S47 := S46.like l47
        have hbo := bst_ok (sub la (a + f) (an - t)) (sub lb (b + f) (bn - t))
        refine ⟨S47.blk 1 rfl, ?_⟩
        refine DX_y 13 (by kernel_rfl) rfl (y_move rfl) rfl ?_
        refine DX_y 14 (by kernel_rfl) rfl (y_extract rfl rfl) rfl ?_
        refine DX_y 15 (by kernel_rfl) rfl (y_extract rfl rfl) rfl ?_
        refine DX_o1 17 (by kernel_rfl) rfl ?_
        refine o_stW S47 4 rfl rfl rfl sz43 (by rfl) (ptf_one1 _) fun w48 S48 => ?_
        refine ⟨S48.blk 1 rfl, ?_⟩
        refine DX_y 18 (by kernel_rfl) rfl (y_assign rfl) rfl ?_
        refine DX_nil (by kernel_rfl) ?_
        refine hK14 _ _ ?_
        refine T_block ?_
        refine T_seq fun K25 hK25 => ?_
        refine T_region ?_
        refine L_y (y_move rfl) rfl ?_
        refine L_y ((by first | exact y_notD rfl | exact y_not rfl)) rfl ?_
        refine L_y (y_assign rfl) rfl ?_
        refine L_nil ?_
        refine hK25 _ _ ?_
        refine T_cond rfl (fun h146 => ?_) (fun h146 => ?_)
        ·
          have hN0 : (bst (sub la (a + f) (an - t)) (sub lb (b + f) (bn - t))).N = 0 := by omega
          refine T_skip ?_
          have S49 : St w0 _ [_, _, _] w48 := S48.sel [0, 2, 3] (by decide)
          have hM : (mv (a + f) (b + f) (coreH KM (DH KM) (sub la (a + f) (an - t)) (sub lb (b + f) (bn - t)))) = [] := by unfold coreH; rw [if_pos hN0]; rfl
          have hfin : (((ks ++ dg a b f) ++ dg (an - t) (bn - t) t) ++ (qs.flatMap (HB KM la lb))).Perm (ks ++ (HB KM la lb ⟨a, an, b, bn⟩ ++ (qs.flatMap (HB KM la lb)))) := by
            rw [hDB]
            have h := perm_one ks (dg a b f) (mv (a + f) (b + f) (coreH KM (DH KM) (sub la (a + f) (an - t)) (sub lb (b + f) (bn - t)))) (dg (an - t) (bn - t) t) (qs.flatMap (HB KM la lb))
            rw [hM, List.append_nil] at h
            rw [hM]
            exact h
          refine ⟨PA, pc, qs, _, _, _, by omega, ⟨⟨hbq, by omega, perm_pop hfin hpm9⟩, S49⟩, ?_⟩
          exact (Sub.cons rfl (by first | rfl | exact congrArg (Value.slice _ · _) (len_two _ _ _)) (Sub.cons rfl rfl (Sub.cons rfl rfl (Sub.cons rfl rfl (Sub.cons rfl rfl (Sub.nil _))))))
        ·
          have hN0 : ¬ (bst (sub la (a + f) (an - t)) (sub lb (b + f) (bn - t))).N = 0 := by omega
          obtain ⟨hbo1, hbo2, _⟩ := hbo hN0
          refine T_seq fun K26 hK26 => ?_
          refine T_region ?_
          refine L_y (y_fieldA 3 Try.underlying43 rfl sz3 rfl rfl rfl) rfl ?_
          refine L_y (y_ldc Try.underlying3 rfl rfl (((S48.blk 4 rfl).cell _).trans (by rfl))) rfl ?_
          refine L_y (y_gtr rfl rfl) rfl ?_
          refine L_y (y_assign rfl) rfl ?_
          refine L_nil ?_
          refine hK26 _ _ ?_
          refine T_cond rfl (fun h149 => ?_) (fun h149 => ?_)
          ·
            have hM : (mv (a + f) (b + f) (coreH KM (DH KM) (sub la (a + f) (an - t)) (sub lb (b + f) (bn - t)))) = mv (a + f) (b + f) (KM (sub la (a + f) (an - t)) (sub lb (b + f) (bn - t))) := by unfold coreH; rw [if_neg hN0, if_pos (by omega)]
            have hml : (mv (a + f) (b + f) (coreH KM (DH KM) (sub la (a + f) (an - t)) (sub lb (b + f) (bn - t)))).length = (KM (sub la (a + f) (an - t)) (sub lb (b + f) (bn - t))).length := by rw [hM, mv_len]
            refine T_seq fun K27 hK27 => ?_
            refine T_drawnL [(0, true), (1, true), (2, true), (3, true), (4, true), (5, true), (6, true), (7, true), (8, true), (9, true), (10, true), (11, true), (12, false), (13, true), (14, true), (15, true), (16, true), (17, true)] hmix (by kernel_rfl) fun w50 l50 => ?_
            have S50 := S48.like l50
            refine DL_y rfl (y_move rfl) rfl ?_
            refine DL_y rfl (y_fieldA 0 Try.underlying78 rfl sz3 rfl rfl rfl) rfl ?_
            refine DL_y rfl (y_ldc Try.underlying3 rfl rfl (((S50.blk 1 rfl).cell _).trans (by rfl))) rfl ?_
            refine DL_y rfl (y_fieldA 1 Try.underlying78 rfl sz3 rfl rfl rfl) rfl ?_
            refine DL_y rfl (y_ldc Try.underlying3 rfl rfl (((S50.blk 1 rfl).cell _).trans (by rfl))) rfl ?_
            refine DL_y rfl (y_slice Try.underlying22 sz3 rfl rfl rfl inferInstance inferInstance (by omega) (by omega)) rfl ?_
            refine DL_y rfl (y_move rfl) rfl ?_
            refine DL_y rfl (y_fieldA 2 Try.underlying78 rfl sz3 rfl rfl rfl) rfl ?_
            refine DL_y rfl (y_ldc Try.underlying3 rfl rfl (((S50.blk 1 rfl).cell _).trans (by rfl))) rfl ?_
            refine DL_y rfl (y_fieldA 3 Try.underlying78 rfl sz3 rfl rfl rfl) rfl ?_
            refine DL_y rfl (y_ldc Try.underlying3 rfl rfl (((S50.blk 1 rfl).cell _).trans (by rfl))) rfl ?_
            refine DL_y rfl (y_slice Try.underlying22 sz3 rfl rfl rfl inferInstance inferInstance (by omega) (by omega)) rfl ?_
            refine DL_o rfl (o_call Try.func53 rfl rfl (fdiff _ _ _ _ _ _ (sub la (a + f) (an - t)) (sub lb (b + f) (bn - t)) w50 (cutI (S50.rd ha) (i := a + f) (u := an - t) (by omega) (by omega)) (cutI (S50.rd hb) (i := b + f) (u := bn - t) (by omega) (by omega)) (by omega) (by omega)) rfl rfl ?_)
            rintro e51 w51 ⟨v51, rfl, l51, A51, n51, c51, rfl, O51⟩
            refine ⟨_, rfl, l51, ?_⟩
            have S51 := S50.adopt l51 O51
            have hdn : n51 = (KM (sub la (a + f) (an - t)) (sub lb (b + f) (bn - t))).length := pf_n (S51.row 5 rfl)
            have q51 := l51
            refine DL_y rfl (y_move rfl) rfl ?_
            refine DL_y rfl (y_extract rfl rfl) rfl ?_
            refine DL_y rfl (y_extract rfl rfl) rfl ?_
            refine DL_y rfl (y_assign rfl) rfl ?_
            refine DL_y rfl (y_assign rfl) rfl ?_
            refine DL_nil ?_
            refine hK27 _ _ ?_
            refine T_seq fun K28 hK28 => ?_
            have S52 : St w0 _ [_, _, _, _, _] w51 := S51.sel [0, 1, 5, 2, 3] (by decide)
            refine T_region ?_
            refine L_y (y_move rfl) rfl ?_
            refine L_y (y_len Try.underlying25 rfl) rfl ?_
            refine L_y (y_move rfl) rfl ?_
            refine L_nil ?_
            refine hK28 _ _ ?_
            refine T_block ?_
            refine T_loop3 [(0, _), (1, _), (5, _), (6, _), (7, _), (8, _), (169, _), (170, _)] (fun (j : Nat) (K1 : Option Addr) (c1 : Nat) => [(171, .int .i64 (j : Int))]) (fun (j : Nat) (K1 : Option Addr) (c1 : Nat) => (KM (sub la (a + f) (an - t)) (sub lb (b + f) (bn - t))).length - j) (fun (j : Nat) (K1 : Option Addr) (c1 : Nat) (w : World) => j ≤ (KM (sub la (a + f) (an - t)) (sub lb (b + f) (bn - t))).length ∧ St w0 noM [row 78 4 PA (qs).length pc ((qs).flatMap bf), blk b6 78 #[.int .i64 ((a + f : Nat) : Int), .int .i64 ((an - t : Nat) : Int), .int .i64 ((b + f : Nat) : Int), .int .i64 ((bn - t : Nat) : Int)], row 34 2 A51 n51 c51 ((KM (sub la (a + f) (an - t)) (sub lb (b + f) (bn - t))).flatMap pf), blk b1 25 #[.slice K1 (((ks ++ dg a b f) ++ dg (an - t) (bn - t) t) ++ mv (a + f) (b + f) ((KM (sub la (a + f) (an - t)) (sub lb (b + f) (bn - t))).take j)).length c1], row 34 2 K1 (((ks ++ dg a b f) ++ dg (an - t) (bn - t) t) ++ mv (a + f) (b + f) ((KM (sub la (a + f) (an - t)) (sub lb (b + f) (bn - t))).take j)).length c1 ((((ks ++ dg a b f) ++ dg (an - t) (bn - t) t) ++ mv (a + f) (b + f) ((KM (sub la (a + f) (an - t)) (sub lb (b + f) (bn - t))).take j)).flatMap pf)] w) 0 KK18 kc18 (Sub.cons rfl (by first | rfl | exact congrArg (Value.int _) (by omega)) (Sub.nil _)) (Sub.cons rfl rfl (Sub.cons rfl rfl (Sub.cons rfl rfl (Sub.cons rfl rfl (Sub.cons rfl rfl (Sub.cons rfl rfl (Sub.cons rfl rfl (Sub.cons rfl rfl (Sub.nil _))))))))) ?_ ?_
            ·
              exact ⟨Nat.zero_le _, by rw [List.take_zero, mv_nil, List.append_nil]; exact S52⟩
            ·
              intro j K1 c1 w53 hrel
              obtain ⟨hj, S53⟩ := hrel
              have hjl : ((KM (sub la (a + f) (an - t)) (sub lb (b + f) (bn - t))).take j).length = j := by rw [List.length_take]; omega
              refine T_seq fun K29 hK29 => ?_
              refine T_region ?_
              refine L_y (y_lss rfl rfl) rfl ?_
              refine L_nil ?_
              refine hK29 _ _ ?_
              refine T_seq fun K30 hK30 => ?_
              refine T_cond rfl (fun h172 => ?_) (fun h172 => ?_)
              ·
                obtain ⟨p, hp⟩ : ∃ p, (KM (sub la (a + f) (an - t)) (sub lb (b + f) (bn - t)))[j]? = some p := ⟨_, List.getElem?_eq_getElem (by omega)⟩
                have hpb := (keep_ok (sub la (a + f) (an - t)) (sub lb (b + f) (bn - t)) _ 0 0 rfl).1 p (List.mem_of_getElem? hp)
                refine T_skip ?_
                refine hK30 _ _ ?_
                refine T_seq fun K31 hK31 => ?_
                refine T_block ?_
                refine T_seq fun K32 hK32 => ?_
                refine T_region ?_
                refine L_y (y_idx Try.underlying25 sz34 rfl rfl (S53.row 2 rfl) (Nt.mk rfl : Nt _ (j)) (by omega)) rfl ?_
                refine L_y (y_ldp (f := pf) pf_len1 Try.underlying34 rfl sz34 rfl (S53.row 2 rfl) (by omega) hp) rfl ?_
                refine L_o (o_alloc zz34 S53 rfl fun b54 w54 hb54 S54 => ?_)
                refine L_o (o_stW S54 5 rfl rfl rfl sz34 (by rfl) (pf_one1 p) fun w55 S55 => ?_)
                refine L_nil ?_
                refine hK32 _ _ ?_
                have S56 : St w0 _ [_, _, _, _, _, _] w55 := S55.sel [0, 1, 2, 5, 3, 4] (by decide)
                refine T_region ?_
                refine L_y (y_move rfl) rfl ?_
                refine L_y (y_fieldA 0 Try.underlying78 rfl sz3 rfl rfl rfl) rfl ?_
                refine L_y (y_ldc Try.underlying3 rfl rfl (((S56.blk 1 rfl).cell _).trans (by rfl))) rfl ?_
                refine L_y (y_fieldA 0 Try.underlying34 rfl sz3 rfl rfl rfl) rfl ?_
                refine L_y (y_ldc Try.underlying3 rfl rfl (((S56.blk 3 rfl).cell _).trans (by rfl))) rfl ?_
                refine L_y (y_add rfl rfl (i64e (k := a + f + p.1) (by omega))) rfl ?_
                refine L_y (y_fieldA 2 Try.underlying78 rfl sz3 rfl rfl rfl) rfl ?_
                refine L_y (y_ldc Try.underlying3 rfl rfl (((S56.blk 1 rfl).cell _).trans (by rfl))) rfl ?_
                refine L_y (y_fieldA 1 Try.underlying34 rfl sz3 rfl rfl rfl) rfl ?_
                refine L_y (y_ldc Try.underlying3 rfl rfl (((S56.blk 3 rfl).cell _).trans (by rfl))) rfl ?_
                refine L_y (y_add rfl rfl (i64e (k := b + f + p.2) (by omega))) rfl ?_
                refine L_o (o_callv rfl Try.func51 rfl rfl (hkeep b1 K1 c1 (((ks ++ dg a b f) ++ dg (an - t) (bn - t) t) ++ mv (a + f) (b + f) ((KM (sub la (a + f) (an - t)) (sub lb (b + f) (bn - t))).take j)) (a + f + p.1) (b + f + p.2) (1) w55 (St.getL (ps := [_, _, _, _]) (rs := [_, _]) S56) (by omega) (by omega) (by first | omega | (simp only [List.length_append, dg_len, mv_len, List.length_take]; omega))) rfl rfl (fun d' hd => by cases hd <;> rfl) ?_)
                rintro e57 w57 ⟨v57, rfl, KK57, kc57, rfl, T57⟩
                refine ⟨_, rfl, ?_⟩
                have S57 := St.turnL (ps := [_, _, _, _]) (rs := [_, _]) (rs' := [_, _]) S56 T57
                have S58 : St w0 _ [_, _, _, _, blk b1 25 #[.slice KK57 (((ks ++ dg a b f) ++ dg (an - t) (bn - t) t) ++ mv (a + f) (b + f) ((KM (sub la (a + f) (an - t)) (sub lb (b + f) (bn - t))).take j) ++ dg (a + f + p.1) (b + f + p.2) (1)).length kc57], row 34 2 KK57 (((ks ++ dg a b f) ++ dg (an - t) (bn - t) t) ++ mv (a + f) (b + f) ((KM (sub la (a + f) (an - t)) (sub lb (b + f) (bn - t))).take j) ++ dg (a + f + p.1) (b + f + p.2) (1)).length kc57 ((((ks ++ dg a b f) ++ dg (an - t) (bn - t) t) ++ mv (a + f) (b + f) ((KM (sub la (a + f) (an - t)) (sub lb (b + f) (bn - t))).take j) ++ dg (a + f + p.1) (b + f + p.2) (1)).flatMap pf)] w57 := S57
                refine L_nil ?_
                refine hK31 _ _ ?_
                have S59 : St w0 _ [_, _, _, _, _] w57 := S58.sel [0, 1, 2, 4, 5] (by decide)
                refine T_region ?_
                refine L_y (y_add rfl rfl (i64w (by omega))) rfl ?_
                refine L_y (y_move rfl) rfl ?_
                refine L_nil ?_
                rw [List.append_assoc, dg_one, ← mv_snoc hp (a + f) (b + f)] at S59
                refine ⟨j + 1, _, _, by omega, ⟨by omega, S59⟩, ?_⟩
                exact (Sub.cons rfl (by first | rfl | exact congrArg (Value.int _) (by omega)) (Sub.cons rfl rfl (Sub.cons rfl rfl (Sub.cons rfl rfl (Sub.cons rfl rfl (Sub.cons rfl rfl (Sub.cons rfl rfl (Sub.cons rfl rfl (Sub.cons rfl rfl (Sub.nil _))))))))))
              ·
                refine T_exit ?_
                have S60 : St w0 _ [_, _, _] w53 := S53.sel [0, 3, 4] (by decide)
                have hje : j = (KM (sub la (a + f) (an - t)) (sub lb (b + f) (bn - t))).length := by omega
                subst hje
                have hfin : ((((ks ++ dg a b f) ++ dg (an - t) (bn - t) t) ++ mv (a + f) (b + f) ((KM (sub la (a + f) (an - t)) (sub lb (b + f) (bn - t))).take (KM (sub la (a + f) (an - t)) (sub lb (b + f) (bn - t))).length)) ++ (qs.flatMap (HB KM la lb))).Perm (ks ++ (HB KM la lb ⟨a, an, b, bn⟩ ++ (qs.flatMap (HB KM la lb)))) := by
                  rw [List.take_length, ← hM, hDB]
                  exact (perm_tail _ _ _).trans (perm_one _ _ _ _ _)
                refine ⟨PA, pc, qs, _, _, _, by omega, ⟨⟨hbq, by omega, perm_pop hfin hpm9⟩, S60⟩, ?_⟩
                exact (Sub.cons rfl (by first | rfl | exact congrArg (Value.slice _ · _) (len_two _ _ _)) (Sub.cons rfl rfl (Sub.cons rfl rfl (Sub.cons rfl rfl (Sub.cons rfl rfl (Sub.nil _))))))
          ·
            have hsp : (mv (a + f) (b + f) (coreH KM (DH KM) (sub la (a + f) (an - t)) (sub lb (b + f) (bn - t)))) = HB KM la lb (⟨a + f, a + f + (bst (sub la (a + f) (an - t)) (sub lb (b + f) (bn - t))).A, b + f, b + f + (bst (sub la (a + f) (an - t)) (sub lb (b + f) (bn - t))).B⟩ : BK) ++ (dg (a + f + (bst (sub la (a + f) (an - t)) (sub lb (b + f) (bn - t))).A) (b + f + (bst (sub la (a + f) (an - t)) (sub lb (b + f) (bn - t))).B) (bst (sub la (a + f) (an - t)) (sub lb (b + f) (bn - t))).N ++ HB KM la lb (⟨a + f + (bst (sub la (a + f) (an - t)) (sub lb (b + f) (bn - t))).A + (bst (sub la (a + f) (an - t)) (sub lb (b + f) (bn - t))).N, an - t, b + f + (bst (sub la (a + f) (an - t)) (sub lb (b + f) (bn - t))).B + (bst (sub la (a + f) (an - t)) (sub lb (b + f) (bn - t))).N, bn - t⟩ : BK)) := by unfold coreH; rw [if_neg hN0, if_neg (by omega)]; exact split_eq (by omega) (by omega)
            have hml := congrArg List.length hsp
            rw [List.length_append, List.length_append, dg_len] at hml
            refine T_seq fun K33 hK33 => ?_
            refine T_drawnL [(0, true), (1, true), (2, true), (3, true), (4, true), (5, true), (6, true), (7, true), (8, true), (9, true), (10, true), (11, true)] hmix (by kernel_rfl) fun w61 l61 => ?_
            have S61 := S48.like l61
            refine DL_y rfl (y_fieldA 0 Try.underlying78 rfl sz3 rfl rfl rfl) rfl ?_
            refine DL_y rfl (y_ldc Try.underlying3 rfl rfl (((S61.blk 1 rfl).cell _).trans (by rfl))) rfl ?_
            refine DL_y rfl (y_fieldA 0 Try.underlying43 rfl sz3 rfl rfl rfl) rfl ?_
            refine DL_y rfl (y_ldc Try.underlying3 rfl rfl (((S61.blk 4 rfl).cell _).trans (by rfl))) rfl ?_
            refine DL_y rfl (y_add rfl rfl (i64e (k := a + f + (bst (sub la (a + f) (an - t)) (sub lb (b + f) (bn - t))).A) (by omega))) rfl ?_
            refine DL_y rfl (y_fieldA 2 Try.underlying78 rfl sz3 rfl rfl rfl) rfl ?_
            refine DL_y rfl (y_ldc Try.underlying3 rfl rfl (((S61.blk 1 rfl).cell _).trans (by rfl))) rfl ?_
            refine DL_y rfl (y_fieldA 1 Try.underlying43 rfl sz3 rfl rfl rfl) rfl ?_
            refine DL_y rfl (y_ldc Try.underlying3 rfl rfl (((S61.blk 4 rfl).cell _).trans (by rfl))) rfl ?_
            refine DL_y rfl (y_add rfl rfl (i64e (k := b + f + (bst (sub la (a + f) (an - t)) (sub lb (b + f) (bn - t))).B) (by omega))) rfl ?_
            refine DL_y rfl (y_assign rfl) rfl ?_
            refine DL_y rfl (y_assign rfl) rfl ?_
            refine DL_nil ?_
            refine hK33 _ _ ?_
            refine T_seq fun K34 hK34 => ?_
            have S62 : St w0 _ [_, _, _, _, _] w61 := S61.sel [0, 1, 4, 2, 3] (by decide)
            refine T_region ?_
            refine L_y (y_move rfl) rfl ?_
            refine L_y (y_move rfl) rfl ?_
            refine L_y (y_move rfl) rfl ?_
            refine L_y (y_fieldA 2 Try.underlying43 rfl sz3 rfl rfl rfl) rfl ?_
            refine L_y (y_ldc Try.underlying3 rfl rfl (((S62.blk 2 rfl).cell _).trans (by rfl))) rfl ?_
            refine L_o (o_callv rfl Try.func51 rfl rfl (hkeep b1 KK18 kc18 (ks ++ dg (a) (b) (f) ++ dg (an - t) (bn - t) (t)) (a + f + (bst (sub la (a + f) (an - t)) (sub lb (b + f) (bn - t))).A) (b + f + (bst (sub la (a + f) (an - t)) (sub lb (b + f) (bn - t))).B) ((bst (sub la (a + f) (an - t)) (sub lb (b + f) (bn - t))).N) w61 (St.getL (ps := [_, _, _]) (rs := [_, _]) S62) (by omega) (by omega) (by first | omega | (simp only [List.length_append, dg_len, mv_len, List.length_take]; omega))) rfl rfl (fun d' hd => by cases hd <;> rfl) ?_)
            rintro e63 w63 ⟨v63, rfl, KK63, kc63, rfl, T63⟩
            refine ⟨_, rfl, ?_⟩
            have S63 := St.turnL (ps := [_, _, _]) (rs := [_, _]) (rs' := [_, _]) S62 T63
            have S64 : St w0 _ [_, _, _, blk b1 25 #[.slice KK63 (ks ++ dg (a) (b) (f) ++ dg (an - t) (bn - t) (t) ++ dg (a + f + (bst (sub la (a + f) (an - t)) (sub lb (b + f) (bn - t))).A) (b + f + (bst (sub la (a + f) (an - t)) (sub lb (b + f) (bn - t))).B) ((bst (sub la (a + f) (an - t)) (sub lb (b + f) (bn - t))).N)).length kc63], row 34 2 KK63 (ks ++ dg (a) (b) (f) ++ dg (an - t) (bn - t) (t) ++ dg (a + f + (bst (sub la (a + f) (an - t)) (sub lb (b + f) (bn - t))).A) (b + f + (bst (sub la (a + f) (an - t)) (sub lb (b + f) (bn - t))).B) ((bst (sub la (a + f) (an - t)) (sub lb (b + f) (bn - t))).N)).length kc63 ((ks ++ dg (a) (b) (f) ++ dg (an - t) (bn - t) (t) ++ dg (a + f + (bst (sub la (a + f) (an - t)) (sub lb (b + f) (bn - t))).A) (b + f + (bst (sub la (a + f) (an - t)) (sub lb (b + f) (bn - t))).B) ((bst (sub la (a + f) (an - t)) (sub lb (b + f) (bn - t))).N)).flatMap pf)] w63 := S63
            refine L_nil ?_
            refine hK34 _ _ ?_
            refine T_region ?_
            refine L_y (y_move rfl) rfl ?_
            refine L_y (y_fieldA 0 Try.underlying78 rfl sz3 rfl rfl rfl) rfl ?_
            refine L_y (y_ldc Try.underlying3 rfl rfl (((S64.blk 1 rfl).cell _).trans (by rfl))) rfl ?_
            refine L_y (y_move rfl) rfl ?_
            refine L_y (y_fieldA 2 Try.underlying78 rfl sz3 rfl rfl rfl) rfl ?_
            refine L_y (y_ldc Try.underlying3 rfl rfl (((S64.blk 1 rfl).cell _).trans (by rfl))) rfl ?_
            refine L_y (y_move rfl) rfl ?_
            refine L_y (y_build rfl (show _ = some #[Value.int .i64 ((a + f : Nat) : Int), Value.int .i64 ((a + f + (bst (sub la (a + f) (an - t)) (sub lb (b + f) (bn - t))).A : Nat) : Int), Value.int .i64 ((b + f : Nat) : Int), Value.int .i64 ((b + f + (bst (sub la (a + f) (an - t)) (sub lb (b + f) (bn - t))).B : Nat) : Int)] by rfl)) rfl ?_
            refine L_y (y_move rfl) rfl ?_
            refine L_y (y_fieldA 2 Try.underlying43 rfl sz3 rfl rfl rfl) rfl ?_
            refine L_y (y_ldc Try.underlying3 rfl rfl (((S64.blk 2 rfl).cell _).trans (by rfl))) rfl ?_
            refine L_y (y_add rfl rfl (i64e (k := a + f + (bst (sub la (a + f) (an - t)) (sub lb (b + f) (bn - t))).A + (bst (sub la (a + f) (an - t)) (sub lb (b + f) (bn - t))).N) (by omega))) rfl ?_
            refine L_y (y_fieldA 1 Try.underlying78 rfl sz3 rfl rfl rfl) rfl ?_
            refine L_y (y_ldc Try.underlying3 rfl rfl (((S64.blk 1 rfl).cell _).trans (by rfl))) rfl ?_
            refine L_y (y_move rfl) rfl ?_
            refine L_y (y_fieldA 2 Try.underlying43 rfl sz3 rfl rfl rfl) rfl ?_
            refine L_y (y_ldc Try.underlying3 rfl rfl (((S64.blk 2 rfl).cell _).trans (by rfl))) rfl ?_
            refine L_y (y_add rfl rfl (i64e (k := b + f + (bst (sub la (a + f) (an - t)) (sub lb (b + f) (bn - t))).B + (bst (sub la (a + f) (an - t)) (sub lb (b + f) (bn - t))).N) (by omega))) rfl ?_
            refine L_y (y_fieldA 3 Try.underlying78 rfl sz3 rfl rfl rfl) rfl ?_
            refine L_y (y_ldc Try.underlying3 rfl rfl (((S64.blk 1 rfl).cell _).trans (by rfl))) rfl ?_
            refine L_y (y_build rfl (show _ = some #[Value.int .i64 ((a + f + (bst (sub la (a + f) (an - t)) (sub lb (b + f) (bn - t))).A + (bst (sub la (a + f) (an - t)) (sub lb (b + f) (bn - t))).N : Nat) : Int), Value.int .i64 ((an - t : Nat) : Int), Value.int .i64 ((b + f + (bst (sub la (a + f) (an - t)) (sub lb (b + f) (bn - t))).B + (bst (sub la (a + f) (an - t)) (sub lb (b + f) (bn - t))).N : Nat) : Int), Value.int .i64 ((bn - t : Nat) : Int)] by rfl)) rfl ?_
            refine L_o (o_bsl [_, _, _, _, _, _, _, _] te79 zz78 S64 rfl rfl rfl rfl rfl rfl rfl rfl fun b65 w65 S65 => ?_)
            refine L_o (o_app te79 S65 0 rfl rfl rfl (by first | exact S65.row 0 rfl | exact S65.row 4 rfl | exact S65.row 5 rfl) (bf_one3 ⟨a + f, a + f + (bst (sub la (a + f) (an - t)) (sub lb (b + f) (bn - t))).A, b + f, b + f + (bst (sub la (a + f) (an - t)) (sub lb (b + f) (bn - t))).B⟩ ⟨a + f + (bst (sub la (a + f) (an - t)) (sub lb (b + f) (bn - t))).A + (bst (sub la (a + f) (an - t)) (sub lb (b + f) (bn - t))).N, an - t, b + f + (bst (sub la (a + f) (an - t)) (sub lb (b + f) (bn - t))).B + (bst (sub la (a + f) (an - t)) (sub lb (b + f) (bn - t))).N, bn - t⟩) rfl (by omega) (by omega) fun A66 c66 w66 S66 => ?_)
            have S66d := S66.drop (rs' := [_, _, _, _, _]) (.cons_cons _ (.cons_cons _ (.cons_cons _ (.cons_cons _ (.cons_cons _ (.cons _ (.refl _)))))))
            refine L_y (y_assign rfl) rfl ?_
            refine L_nil ?_
            have S67 : St w0 _ [_, _, _] w66 := S66d.sel [0, 3, 4] (by decide)
            have S68 := S67.rowc 0 rfl (n' := (qs ++ [(⟨a + f, a + f + (bst (sub la (a + f) (an - t)) (sub lb (b + f) (bn - t))).A, b + f, b + f + (bst (sub la (a + f) (an - t)) (sub lb (b + f) (bn - t))).B⟩ : BK), (⟨a + f + (bst (sub la (a + f) (an - t)) (sub lb (b + f) (bn - t))).A + (bst (sub la (a + f) (an - t)) (sub lb (b + f) (bn - t))).N, an - t, b + f + (bst (sub la (a + f) (an - t)) (sub lb (b + f) (bn - t))).B + (bst (sub la (a + f) (an - t)) (sub lb (b + f) (bn - t))).N, bn - t⟩ : BK)]).length) (xs' := (qs ++ [(⟨a + f, a + f + (bst (sub la (a + f) (an - t)) (sub lb (b + f) (bn - t))).A, b + f, b + f + (bst (sub la (a + f) (an - t)) (sub lb (b + f) (bn - t))).B⟩ : BK), (⟨a + f + (bst (sub la (a + f) (an - t)) (sub lb (b + f) (bn - t))).A + (bst (sub la (a + f) (an - t)) (sub lb (b + f) (bn - t))).N, an - t, b + f + (bst (sub la (a + f) (an - t)) (sub lb (b + f) (bn - t))).B + (bst (sub la (a + f) (an - t)) (sub lb (b + f) (bn - t))).N, bn - t⟩ : BK)]).flatMap bf) (len_two _ _ _) (bf_snoc2 qs (⟨a + f, a + f + (bst (sub la (a + f) (an - t)) (sub lb (b + f) (bn - t))).A, b + f, b + f + (bst (sub la (a + f) (an - t)) (sub lb (b + f) (bn - t))).B⟩ : BK) (⟨a + f + (bst (sub la (a + f) (an - t)) (sub lb (b + f) (bn - t))).A + (bst (sub la (a + f) (an - t)) (sub lb (b + f) (bn - t))).N, an - t, b + f + (bst (sub la (a + f) (an - t)) (sub lb (b + f) (bn - t))).B + (bst (sub la (a + f) (an - t)) (sub lb (b + f) (bn - t))).N, bn - t⟩ : BK))
            have hW2 := Wt_two qs (⟨a + f, a + f + (bst (sub la (a + f) (an - t)) (sub lb (b + f) (bn - t))).A, b + f, b + f + (bst (sub la (a + f) (an - t)) (sub lb (b + f) (bn - t))).B⟩ : BK) (⟨a + f + (bst (sub la (a + f) (an - t)) (sub lb (b + f) (bn - t))).A + (bst (sub la (a + f) (an - t)) (sub lb (b + f) (bn - t))).N, an - t, b + f + (bst (sub la (a + f) (an - t)) (sub lb (b + f) (bn - t))).B + (bst (sub la (a + f) (an - t)) (sub lb (b + f) (bn - t))).N, bn - t⟩ : BK)
            have hw1 : wt (⟨a + f, a + f + (bst (sub la (a + f) (an - t)) (sub lb (b + f) (bn - t))).A, b + f, b + f + (bst (sub la (a + f) (an - t)) (sub lb (b + f) (bn - t))).B⟩ : BK) = (a + f + (bst (sub la (a + f) (an - t)) (sub lb (b + f) (bn - t))).A - (a + f)) + (b + f + (bst (sub la (a + f) (an - t)) (sub lb (b + f) (bn - t))).B - (b + f)) + 1 := rfl
            have hw2 : wt (⟨a + f + (bst (sub la (a + f) (an - t)) (sub lb (b + f) (bn - t))).A + (bst (sub la (a + f) (an - t)) (sub lb (b + f) (bn - t))).N, an - t, b + f + (bst (sub la (a + f) (an - t)) (sub lb (b + f) (bn - t))).B + (bst (sub la (a + f) (an - t)) (sub lb (b + f) (bn - t))).N, bn - t⟩ : BK) = (an - t - (a + f + (bst (sub la (a + f) (an - t)) (sub lb (b + f) (bn - t))).A + (bst (sub la (a + f) (an - t)) (sub lb (b + f) (bn - t))).N)) + (bn - t - (b + f + (bst (sub la (a + f) (an - t)) (sub lb (b + f) (bn - t))).B + (bst (sub la (a + f) (an - t)) (sub lb (b + f) (bn - t))).N)) + 1 := rfl
            have hbk2 : ∀ z ∈ qs ++ [(⟨a + f, a + f + (bst (sub la (a + f) (an - t)) (sub lb (b + f) (bn - t))).A, b + f, b + f + (bst (sub la (a + f) (an - t)) (sub lb (b + f) (bn - t))).B⟩ : BK), (⟨a + f + (bst (sub la (a + f) (an - t)) (sub lb (b + f) (bn - t))).A + (bst (sub la (a + f) (an - t)) (sub lb (b + f) (bn - t))).N, an - t, b + f + (bst (sub la (a + f) (an - t)) (sub lb (b + f) (bn - t))).B + (bst (sub la (a + f) (an - t)) (sub lb (b + f) (bn - t))).N, bn - t⟩ : BK)], BKok la.length lb.length z := fun z hz => by
              rcases List.mem_append.1 hz with hz | hz
              · exact hbq z hz
              · simp only [List.mem_cons, List.not_mem_nil, or_false] at hz
                rcases hz with rfl | rfl
                · exact ⟨by show a + f ≤ a + f + _; omega, by show a + f + (bst (sub la (a + f) (an - t)) (sub lb (b + f) (bn - t))).A ≤ _; omega, by show b + f ≤ b + f + _; omega, by show b + f + (bst (sub la (a + f) (an - t)) (sub lb (b + f) (bn - t))).B ≤ _; omega⟩
                · exact ⟨by show a + f + (bst (sub la (a + f) (an - t)) (sub lb (b + f) (bn - t))).A + (bst (sub la (a + f) (an - t)) (sub lb (b + f) (bn - t))).N ≤ an - t; omega, by show an - t ≤ _; omega, by show b + f + (bst (sub la (a + f) (an - t)) (sub lb (b + f) (bn - t))).B + (bst (sub la (a + f) (an - t)) (sub lb (b + f) (bn - t))).N ≤ bn - t; omega, by show bn - t ≤ _; omega⟩
            have hfin : ((((ks ++ dg a b f) ++ dg (an - t) (bn - t) t) ++ dg (a + f + (bst (sub la (a + f) (an - t)) (sub lb (b + f) (bn - t))).A) (b + f + (bst (sub la (a + f) (an - t)) (sub lb (b + f) (bn - t))).B) (bst (sub la (a + f) (an - t)) (sub lb (b + f) (bn - t))).N) ++ (qs ++ [(⟨a + f, a + f + (bst (sub la (a + f) (an - t)) (sub lb (b + f) (bn - t))).A, b + f, b + f + (bst (sub la (a + f) (an - t)) (sub lb (b + f) (bn - t))).B⟩ : BK), (⟨a + f + (bst (sub la (a + f) (an - t)) (sub lb (b + f) (bn - t))).A + (bst (sub la (a + f) (an - t)) (sub lb (b + f) (bn - t))).N, an - t, b + f + (bst (sub la (a + f) (an - t)) (sub lb (b + f) (bn - t))).B + (bst (sub la (a + f) (an - t)) (sub lb (b + f) (bn - t))).N, bn - t⟩ : BK)]).flatMap (HB KM la lb)).Perm (ks ++ (HB KM la lb ⟨a, an, b, bn⟩ ++ (qs.flatMap (HB KM la lb)))) := by
              rw [flat_two, hDB]
              refine (perm_mid2 _ _ _ _ _).trans ?_
              rw [hsp]
              exact perm_one _ _ _ _ _
            refine ⟨A66, c66, qs ++ [(⟨a + f, a + f + (bst (sub la (a + f) (an - t)) (sub lb (b + f) (bn - t))).A, b + f, b + f + (bst (sub la (a + f) (an - t)) (sub lb (b + f) (bn - t))).B⟩ : BK), (⟨a + f + (bst (sub la (a + f) (an - t)) (sub lb (b + f) (bn - t))).A + (bst (sub la (a + f) (an - t)) (sub lb (b + f) (bn - t))).N, an - t, b + f + (bst (sub la (a + f) (an - t)) (sub lb (b + f) (bn - t))).B + (bst (sub la (a + f) (an - t)) (sub lb (b + f) (bn - t))).N, bn - t⟩ : BK)], _, _, _, by omega, ⟨⟨hbk2, by omega, perm_pop hfin hpm9⟩, S68⟩, ?_⟩
            exact (Sub.cons rfl (by first | rfl | exact congrArg (Value.slice _ · _) (len_two _ _ _)) (Sub.cons rfl rfl (Sub.cons rfl rfl (Sub.cons rfl rfl (Sub.cons rfl rfl (Sub.nil _))))))
    ·
      refine T_exit ?_
      refine hK4 _ _ ?_
      refine T_seq fun K35 hK35 => ?_
      have hp0 : ps = [] := List.eq_nil_of_length_eq_zero (by omega)
      subst hp0
      rw [List.flatMap_nil, List.append_nil] at hpm hpl
      refine T_region ?_
      refine L_y (y_ldc Try.underlying25 rfl rfl (((S5.blk 1 rfl).cell _).trans (by rfl))) rfl ?_
      refine L_y (y_assign rfl) rfl ?_
      refine L_nil ?_
      refine hK35 _ _ ?_
      refine T_ret ?_
      repeat (first | with_reducible refine up_then ?_ | with_reducible refine up_in ?_)
      refine ret1 rfl rfl ?_
      exact ⟨_, rfl, S5.like0, KA, ks, kc, rfl, S5.own 2 rfl, hpm⟩


set_option maxRecDepth 100000 in
theorem hdiff (A B : Option Addr) (n ca m cb : Nat) (la lb : List Int) (w0 : World) (ha : Rs w0 1 A n ca (iL la)) (hb : Rs w0 1 B m cb (iL lb)) (hn9 : n ≤ 800) (hm9 : m ≤ 800) :
    Calls Try.prog 13 #[.slice A n ca, .slice B m cb] w0 fun e w' => ∃ u, e = .returned u ∧ Like w0 w' ∧ ∃ A m c, u = .tuple #[.slice A m c, .int .i64 0] ∧ w'.ownsRow w0.heap.size 34 2 (.slice A m c) m ((DH KM la lb).flatMap pf) := by
  refine enter1 (env := [(0, .slice A n ca), (1, .slice B m cb)]) [.slice A n ca, .slice B m cb] Try.func13 rfl Try.ntmps13 rfl rfl ?_
  have hla := lenI ha; have hlb := lenI hb; have hcap := ha.cap; have hmax := ha.max; have hcap2 := hb.cap; have hmax2 := hb.max; have S0 := St.start w0 noM
  refine T_seq fun K1 hK1 => ?_
  refine T_region ?_
  refine L_y (y_assign rfl) rfl ?_
  refine L_y (y_assign rfl) rfl ?_
  refine L_nil ?_
  refine hK1 _ _ ?_
  refine T_seq fun K2 hK2 => ?_
  refine T_seq fun K3 hK3 => ?_
  refine T_region ?_
  refine L_y (y_move rfl) rfl ?_
  refine L_y (y_len Try.underlying22 rfl) rfl ?_
  refine L_y (y_gtr rfl rfl) rfl ?_
  refine L_y (y_move rfl) rfl ?_
  refine L_split 10 rfl (fun h10 => ?_) (fun h10 => ?_)
  ·
    exact absurd h10 (by omega)
  ·
    refine L_gyes rfl rfl ?_
    refine L_y (y_move rfl) rfl ?_
    refine L_gyes rfl rfl ?_
    refine L_y (y_len Try.underlying22 rfl) rfl ?_
    refine L_gyes rfl rfl ?_
    refine L_y (y_gtr rfl rfl) rfl ?_
    refine L_y ((by first | exact y_pickT rfl rfl | exact y_pickF rfl rfl)) rfl ?_
    refine L_nil ?_
    refine hK3 _ _ ?_
    refine T_cond rfl (fun h14 => ?_) (fun h14 => ?_)
    ·
      exact absurd h14 (by omega)
    ·
      refine T_skip ?_
      refine hK2 _ _ ?_
      refine T_seq fun K4 hK4 => ?_
      refine T_region ?_
      refine L_y (y_move rfl) rfl ?_
      refine L_y (y_move rfl) rfl ?_
      refine L_o (o_call Try.func32 rfl rfl (hrun A B n ca m cb la lb w0 (S0.rd ha) (S0.rd hb) hn9 hm9) rfl rfl ?_)
      rintro e2 w2 ⟨v2, rfl, l2, A2, ks, c2, rfl, O2, hpm⟩
      refine ⟨_, rfl, ?_⟩
      have S2 := S0.adopt l2 O2
      have hpl := hpm.length_eq
      have hdl := DHK_len la lb
      refine L_y (y_assign rfl) rfl ?_
      refine L_nil ?_
      refine hK4 _ _ ?_
      refine T_seq fun K5 hK5 => ?_
      refine T_region ?_
      refine L_y (y_move rfl) rfl ?_
      refine L_o (o_call Try.func33 rfl rfl (sortH _ ks.length _ ks w2 rfl (S2.get 0 rfl) (by omega)) rfl rfl ?_)
      rintro e3 w3 ⟨v3, rfl, zs, hzp, hzs, T3⟩
      refine ⟨_, rfl, ?_⟩
      have S3 := S2.turn 0 rfl T3
      have hze := asc_of (hzp.trans hpm) hzs ((DH_ok KM_ok la lb).2.imp fun {p q} h => h.1)
      subst hze
      refine L_nil ?_
      refine hK5 _ _ ?_
      refine T_seq fun K6 hK6 => ?_
      refine T_region ?_
      refine L_y (y_move rfl) rfl ?_
      refine L_y (y_assign rfl) rfl ?_
      refine L_y (y_assign rfl) rfl ?_
      refine L_nil ?_
      refine hK6 _ _ ?_
      refine T_ret ?_
      repeat (first | with_reducible refine up_then ?_ | with_reducible refine up_in ?_)
      refine ret2 rfl rfl rfl ?_
      exact ⟨_, rfl, S3.like0, _, _, _, rfl, S3.own 0 rfl⟩


end Go.Proofs.Ytbbmkgpgiacdeaa


/-
  The document: Diff, by the histogram way.
-/
namespace Go.Proofs.Ytbbmkgpgiacdeaa
open Go.RowKit Zk Zx
set_option linter.unusedVariables false
set_option linter.unusedSimpArgs false

end Go.Proofs.Ytbbmkgpgiacdeaa


/-
  The laws PatienceOnce, PatienceChains.
-/
namespace Go.Proofs.Ytbbmkgpgiacdeaa
open Go.RowKit Zk Zx
set_option linter.unusedVariables false
set_option linter.unusedSimpArgs false

section
open Go.ChangeShapes Go.WideShapes Go.ChangeAt Go.Deep
variable {H : Type} {enc : TypeId × Value → H} {w : World} {base : Nat} {spare : Nat → Bool} {held : Bool}
end
end Go.Proofs.Ytbbmkgpgiacdeaa


/-
  The laws PatienceDiffs, PatienceKeeps.
-/
namespace Go.Proofs.Ytbbmkgpgiacdeaa
open Go.RowKit Zk Zx
set_option linter.unusedVariables false
set_option linter.unusedSimpArgs false

/-- Each place's partner. -/
def Par (l : List (Nat × Nat)) (vs : List Int) (k : Nat) : Prop := ∀ (t : Nat) (p : Nat × Nat), t < k → l[t]? = some p → vs[p.1]? = some (p.2 : Int)
theorem Par.at {l : List (Nat × Nat)} {vs : List Int} (h : Par l vs l.length) {i k : Nat} (hm : (i, k) ∈ l) : vs[i]? = some (k : Int) := by
  obtain ⟨t, ht⟩ := List.getElem?_of_mem hm
  exact h t (i, k) (List.getElem?_eq_some_iff.1 ht).1 ht


end Go.Proofs.Ytbbmkgpgiacdeaa


/-
  The laws of the histogram way.
-/
namespace Go.Proofs.Ytbbmkgpgiacdeaa
open Go.RowKit Zk Zx
set_option linter.unusedVariables false
set_option linter.unusedSimpArgs false

theorem y_eqb {P : Program} {S : World → Prop} {env : Env} {dst : Option Tmp} {ty : TypeId} {pos : String} {after : Array Edge} {g : Option (Nat × Bool)} {x y : Operand} {t u : TypeId} {a b : Bool} (ht : P.underlying t = some .bool) (hx : ev env x = some (.bool a)) (hy : ev env y = some (.bool b)) (h : a = b) :
    Y P S env ⟨dst, .binOp .eql t x y u, ty, pos, after, g⟩ (.bool true) := fun N c w hc _ => by
  subst h
  have he : (Op.equal t (.bool a) (.bool a)).run P w = .ok true w := by
    unfold Op.equal Op.maxDepth Op.equalIn
    simp only [Sem.run_bind, run_underlying ht, Result.andThen_ok, Sem.run_pure]
    simp
  simp only [execOp, hc.eval hx, hc.eval hy, eqGuard, binOp, Sem.run_bind, Sem.run_pure, Result.andThen_ok, he]
  rw [if_neg (by decide)]
  simp only [Sem.run_pure, Result.andThen_ok, he]
theorem bst_works : bst [7, 1, 7, 2, 3] [7, 2, 3, 7] = ⟨2, 0, 3, 1⟩ := by
  have h : (fun p : PT => (p.A, p.B, p.N, p.W)) (bst [7, 1, 7, 2, 3] [7, 2, 3, 7]) = (2, 0, 3, 1) := by decide +kernel
  generalize bst [7, 1, 7, 2, 3] [7, 2, 3, 7] = p at h
  obtain ⟨a, b, c, d⟩ := p
  cases h
  rfl
theorem DH_works : (DH KM [1, 2, 3, 1] [1, 3, 1]).length = 3 := by decide +kernel
theorem fieldsPart : FieldsI Try.prog [{ name := "A", type := 3, offset := 0, embedded := false, tag := "", pkgPath := "", byteOffset := 0 }, { name := "B", type := 3, offset := 1, embedded := false, tag := "", pkgPath := "", byteOffset := 8 }, { name := "N", type := 3, offset := 2, embedded := false, tag := "", pkgPath := "", byteOffset := 16 }, { name := "Worth", type := 3, offset := 3, embedded := false, tag := "", pkgPath := "", byteOffset := 24 }] 0 :=
  ⟨by decide, rfl, Try.underlying3, by decide, rfl, Try.underlying3, by decide, rfl, Try.underlying3, by decide, rfl, Try.underlying3, trivial⟩
theorem lC_monoA (la lb : List Int) (i k : Nat) : lC la lb (i + 1) k ≤ lC la lb i k := by
  by_cases h : i < la.length ∧ k < lb.length ∧ la[i]? = lb[k]?
  · exact (lC_hit h).2.1
  · rcases Nat.lt_or_ge i la.length with hi | hi
    · rcases Nat.lt_or_ge k lb.length with hk | hk
      · rw [lC_mis h hi hk]
        exact Nat.le_max_left _ _
      · rw [lC_endB hk]
        exact Nat.zero_le _
    · rw [lC_endA (by omega)]
      exact Nat.zero_le _
theorem lC_monoB (la lb : List Int) (i k : Nat) : lC la lb i (k + 1) ≤ lC la lb i k := by
  by_cases h : i < la.length ∧ k < lb.length ∧ la[i]? = lb[k]?
  · exact (lC_hit h).2.2
  · rcases Nat.lt_or_ge i la.length with hi | hi
    · rcases Nat.lt_or_ge k lb.length with hk | hk
      · rw [lC_mis h hi hk]
        exact Nat.le_max_right _ _
      · rw [lC_endB (by omega)]
        exact Nat.zero_le _
    · rw [lC_endA hi]
      exact Nat.zero_le _
theorem lC_mono (la lb : List Int) : ∀ i k, lC la lb i k ≤ lC la lb 0 0
  | 0, 0 => Nat.le_refl _
  | 0, k + 1 => Nat.le_trans (lC_monoB la lb 0 k) (lC_mono la lb 0 k)
  | i + 1, k => Nat.le_trans (lC_monoA la lb i k) (lC_mono la lb i k)
theorem lC_common {la lb : List Int} {x : Int} (h1 : x ∈ la) (h2 : x ∈ lb) : 0 < lC la lb 0 0 := by
  obtain ⟨i, hi⟩ := List.getElem?_of_mem h1
  obtain ⟨k, hk⟩ := List.getElem?_of_mem h2
  have h := lC_mono la lb i k
  have := (lC_hit (la := la) (lb := lb) (i := i) (k := k) ⟨(List.getElem?_eq_some_iff.1 hi).1, (List.getElem?_eq_some_iff.1 hk).1, by rw [hi, hk]⟩).1
  omega
theorem lC_len (la lb : List Int) : lC la lb 0 0 = (keepT la lb 0 0).length := by
  have h := keep_len la lb _ 0 0 rfl (Nat.zero_le _) (Nat.zero_le _)
  unfold lC
  omega
theorem DH_pos {a b : List Int} {x : Int} (h1 : x ∈ a) (h2 : x ∈ b) : 0 < (DH KM a b).length := by
  rw [DH_eq, List.length_append, List.length_append, dg_len, dg_len, mv_len]
  have hp := pre_le a b
  by_cases hf : pre a b = 0
  · by_cases ht : suf a b = 0
    · rw [hf, ht]
      have e1 : ∀ l : List Int, mid l 0 0 = l := fun l => by simp [mid]
      rw [e1, e1]
      have hn := bst_some h1 h2
      have hk : 0 < (KM a b).length := by
        have := lC_common h1 h2
        rw [lC_len] at this
        exact this
      have : 0 < (coreH KM (DH KM) a b).length := by
        unfold coreH
        rw [if_neg hn]
        split
        · exact hk
        · unfold splitH
          simp only [List.length_append, dg_len]
          omega
      omega
    · omega
  · omega
theorem DH_lC (a b : List Int) : decide ((0 : Int) < ((DH KM a b).length : Nat)) = decide ((0 : Int) < (lC a b 0 0 : Nat)) := by
  refine decide_eq_decide.2 ⟨fun h => ?_, fun h => ?_⟩
  · have hl : 0 < (DH KM a b).length := by omega
    obtain ⟨p, hp⟩ := List.exists_mem_of_length_pos hl
    have h3 := (DH_ok KM_ok a b).1 p hp
    obtain ⟨x, hx⟩ : ∃ x, a[p.1]? = some x := ⟨_, List.getElem?_eq_getElem (by omega)⟩
    have := lC_common (List.mem_of_getElem? hx) (List.mem_of_getElem? (h3.2.2.2.2 ▸ hx))
    omega
  · have hl : 0 < (keepT a b 0 0).length := by rw [← lC_len]; omega
    obtain ⟨p, hp⟩ := List.exists_mem_of_length_pos hl
    have h3 := (keep_ok a b _ 0 0 rfl).1 p hp
    obtain ⟨x, hx⟩ : ∃ x, a[p.1]? = some x := ⟨_, List.getElem?_eq_getElem (by omega)⟩
    have := DH_pos (List.mem_of_getElem? hx) (List.mem_of_getElem? (h3.2.2.2.2 ▸ hx))
    omega


set_option maxRecDepth 100000 in
theorem works24  (w0 : World)  :
    Calls Try.prog 12 #[] w0 fun e w' => ∃ u, e = .returned u ∧ Like w0 w' ∧ u = .bool true := by
  refine enter1 (env := []) [] Try.func12 rfl Try.ntmps12 rfl rfl ?_
  have S0 := St.start w0 noM
  refine T_seq fun K1 hK1 => ?_
  refine T_region ?_
  refine L_y (y_assign rfl) rfl ?_
  refine L_nil ?_
  refine hK1 _ _ ?_
  refine T_seq fun K2 hK2 => ?_
  refine T_region ?_
  refine L_o (o_bsl [_, _, _, _, _] te22 zz3 S0 rfl rfl rfl rfl rfl rfl rfl rfl fun b1 w1 S1 => ?_)
  refine L_o (o_bsl [_, _, _, _] te22 zz3 S1 rfl rfl rfl rfl rfl rfl rfl rfl fun b2 w2 S2 => ?_)
  refine L_o (o_call Try.func21 rfl rfl (hBest _ _ _ _ _ _ [7, 1, 7, 2, 3] [7, 2, 3, 7] w2 (S2.row 0 rfl) (S2.row 1 rfl) (by omega) (by omega)) rfl rfl ?_)
  rintro e3 w3 ⟨v3, rfl, l3, rfl⟩
  refine ⟨_, rfl, ?_⟩
  have S3 := S2.like l3
  rw [bst_works]
  refine L_y (y_move rfl) rfl ?_
  refine L_y (y_extract rfl rfl) rfl ?_
  refine L_y (y_extract rfl rfl) rfl ?_
  refine L_o (o_alloc zz43 S3 rfl fun b4 w4 hb4 S4 => ?_)
  refine L_o (o_stW S4 2 rfl rfl rfl sz43 (by rfl) (ptf_one1 _) fun w5 S5 => ?_)
  refine L_y (y_assign rfl) rfl ?_
  refine L_nil ?_
  refine hK2 _ _ ?_
  refine T_seq fun K3 hK3 => ?_
  refine T_region ?_
  refine L_o (o_bsl [_, _, _, _] te22 zz3 S5 rfl rfl rfl rfl rfl rfl rfl rfl fun b6 w6 S6 => ?_)
  refine L_o (o_bsl [_, _, _] te22 zz3 S6 rfl rfl rfl rfl rfl rfl rfl rfl fun b7 w7 S7 => ?_)
  refine L_o (o_call Try.func13 rfl rfl (hdiff _ _ _ _ _ _ [1, 2, 3, 1] [1, 3, 1] w7 (S7.row 3 rfl) (S7.row 4 rfl) (by omega) (by omega)) rfl rfl ?_)
  rintro e8 w8 ⟨v8, rfl, l8, AQ, mQ, cQ, rfl, O8⟩
  refine ⟨_, rfl, ?_⟩
  have S8 := S7.adopt l8 O8
  have hmQ := pf_n (S8.row 5 rfl)
  rw [DH_works] at hmQ
  subst hmQ
  refine L_y (y_move rfl) rfl ?_
  refine L_y (y_extract rfl rfl) rfl ?_
  refine L_y (y_extract rfl rfl) rfl ?_
  refine L_y (y_assign rfl) rfl ?_
  refine L_y (y_assign rfl) rfl ?_
  refine L_nil ?_
  refine hK3 _ _ ?_
  refine T_seq fun K4 hK4 => ?_
  refine T_region ?_
  refine L_y (y_move rfl) rfl ?_
  refine L_y (y_move rfl) rfl ?_
  refine L_split 18 rfl (fun h18 => ?_) (fun h18 => ?_)
  ·
    refine L_gyes rfl rfl ?_
    refine L_y (y_ldW Try.underlying43 rfl sz43 rfl (S8.blk 2 rfl) (show _ = ptf (⟨2, 0, 3, 1⟩) ∧ _ from ⟨rfl, rfl⟩)) rfl ?_
    refine L_gyes rfl rfl ?_
    refine L_y (y_build rfl (show _ = some #[Value.int .i64 2, Value.int .i64 0, Value.int .i64 3, Value.int .i64 1] by kernel_rfl)) rfl ?_
    refine L_gyes rfl rfl ?_
    refine L_y (y_eqI (xs := [2, 0, 3, 1]) (ys := [2, 0, 3, 1]) Try.underlying43 (by kernel_rfl) (by kernel_rfl) fieldsPart rfl rfl rfl rfl) rfl ?_
    refine L_y ((by first | exact y_pickT rfl rfl | exact y_pickF rfl rfl)) rfl ?_
    refine L_y (y_move rfl) rfl ?_
    refine L_split 23 rfl (fun h23 => ?_) (fun h23 => ?_)
    ·
      refine L_gyes rfl rfl ?_
      refine L_y (y_move rfl) rfl ?_
      refine L_gyes rfl rfl ?_
      refine L_y (y_eql rfl rfl) rfl ?_
      refine L_y ((by first | exact y_pickT rfl rfl | exact y_pickF rfl rfl)) rfl ?_
      refine L_y (y_move rfl) rfl ?_
      refine L_split 27 rfl (fun h27 => ?_) (fun h27 => ?_)
      ·
        refine L_gyes rfl rfl ?_
        refine L_y (y_move rfl) rfl ?_
        refine L_gyes rfl rfl ?_
        refine L_y (y_len Try.underlying25 rfl) rfl ?_
        refine L_gyes rfl rfl ?_
        refine L_y (y_eql rfl rfl) rfl ?_
        refine L_y ((by first | exact y_pickT rfl rfl | exact y_pickF rfl rfl)) rfl ?_
        refine L_y (y_assign rfl) rfl ?_
        refine L_nil ?_
        refine hK4 _ _ ?_
        refine T_ret ?_
        repeat (first | with_reducible refine up_then ?_ | with_reducible refine up_in ?_)
        refine ret1 rfl rfl ?_
        exact ⟨_, rfl, S8.like0, rfl⟩
      ·
        exact absurd rfl h27
    ·
      exact absurd rfl h23
  ·
    exact absurd (by decide) h18


set_option maxRecDepth 100000 in
theorem long24 (A B : Option Addr) (n ca m cb : Nat) (w0 : World)  :
    Calls Try.prog 11 #[.slice A n ca, .slice B m cb] w0 fun e w' => ∃ u, e = .returned u ∧ Like w0 w' ∧ u = .bool (decide (90 < n ∨ 90 < m)) := by
  refine enter1 (env := [(0, .slice A n ca), (1, .slice B m cb)]) [.slice A n ca, .slice B m cb] Try.func11 rfl Try.ntmps11 rfl rfl ?_
  have S0 := St.start w0 noM
  refine T_seq fun K1 hK1 => ?_
  refine T_region ?_
  refine L_y (y_assign rfl) rfl ?_
  refine L_nil ?_
  refine hK1 _ _ ?_
  refine T_seq fun K2 hK2 => ?_
  refine T_region ?_
  refine L_y (y_move rfl) rfl ?_
  refine L_y (y_len Try.underlying22 rfl) rfl ?_
  refine L_y (y_gtr rfl rfl) rfl ?_
  refine L_y (y_move rfl) rfl ?_
  refine L_split 8 rfl (fun h8 => ?_) (fun h8 => ?_)
  ·
    refine L_gno rfl rfl rfl ?_
    refine L_gno rfl rfl rfl ?_
    refine L_gno rfl rfl rfl ?_
    refine L_y ((by first | exact y_pickT rfl rfl | exact y_pickF rfl rfl)) rfl ?_
    refine L_y (y_assign rfl) rfl ?_
    refine L_nil ?_
    refine hK2 _ _ ?_
    refine T_ret ?_
    repeat (first | with_reducible refine up_then ?_ | with_reducible refine up_in ?_)
    refine ret1 rfl rfl ?_
    exact ⟨_, rfl, S0.like0, congrArg Value.bool (by first | exact (decide_eq_true (by omega)).symm | exact decide_eq_decide.2 (by omega))⟩
  ·
    refine L_gyes rfl rfl ?_
    refine L_y (y_move rfl) rfl ?_
    refine L_gyes rfl rfl ?_
    refine L_y (y_len Try.underlying22 rfl) rfl ?_
    refine L_gyes rfl rfl ?_
    refine L_y (y_gtr rfl rfl) rfl ?_
    refine L_y ((by first | exact y_pickT rfl rfl | exact y_pickF rfl rfl)) rfl ?_
    refine L_y (y_assign rfl) rfl ?_
    refine L_nil ?_
    refine hK2 _ _ ?_
    refine T_ret ?_
    repeat (first | with_reducible refine up_then ?_ | with_reducible refine up_in ?_)
    refine ret1 rfl rfl ?_
    exact ⟨_, rfl, S0.like0, congrArg Value.bool (by first | exact (decide_eq_true (by omega)).symm | exact decide_eq_decide.2 (by omega))⟩


set_option maxRecDepth 100000 in
theorem hkeeps (A B : Option Addr) (n ca m cb : Nat) (la lb : List Int) (w0 : World) (ha : Rs w0 1 A n ca (iL la)) (hb : Rs w0 1 B m cb (iL lb)) :
    Calls Try.prog 4 #[.slice A n ca, .slice B m cb] w0 fun e w' => ∃ u, e = .returned u ∧ Like w0 w' ∧ u = .bool true := by
  refine enter1 (env := [(0, .slice A n ca), (1, .slice B m cb)]) [.slice A n ca, .slice B m cb] Try.func4 rfl Try.ntmps4 rfl rfl ?_
  have hla := lenI ha; have hlb := lenI hb; have hcap := ha.cap; have hmax := ha.max; have hcap2 := hb.cap; have hmax2 := hb.max; have S0 := St.start w0 noM
  refine T_seq fun K1 hK1 => ?_
  refine T_region ?_
  refine L_y (y_assign rfl) rfl ?_
  refine L_nil ?_
  refine hK1 _ _ ?_
  refine T_seq fun K2 hK2 => ?_
  refine T_seq fun K3 hK3 => ?_
  refine T_region ?_
  refine L_y (y_move rfl) rfl ?_
  refine L_y (y_move rfl) rfl ?_
  refine L_o (o_call Try.func11 rfl rfl (long24 A B n ca m cb w0) rfl rfl ?_)
  rintro e1 w1 ⟨v1, rfl, l1, rfl⟩
  refine ⟨_, rfl, ?_⟩
  have S1 := S0.like l1
  refine L_nil ?_
  refine hK3 _ _ ?_
  refine T_condB rfl (fun h10 => ?_) (fun h10 => ?_)
  ·
    refine T_seq fun K4 hK4 => ?_
    refine T_region ?_
    refine L_o (o_call Try.func12 rfl rfl (works24 w1) rfl rfl ?_)
    rintro e2 w2 ⟨v2, rfl, l2, rfl⟩
    refine ⟨_, rfl, ?_⟩
    have S2 := S1.like l2
    refine L_y (y_assign rfl) rfl ?_
    refine L_nil ?_
    refine hK4 _ _ ?_
    refine T_ret ?_
    repeat (first | with_reducible refine up_then ?_ | with_reducible refine up_in ?_)
    refine ret1 rfl rfl ?_
    exact ⟨_, rfl, S2.like0, rfl⟩
  ·
    have hl9 := of_decide_eq_false h10
    refine T_skip ?_
    refine hK2 _ _ ?_
    refine T_seq fun K5 hK5 => ?_
    refine T_region ?_
    refine L_y (y_move rfl) rfl ?_
    refine L_y (y_move rfl) rfl ?_
    refine L_o (o_call Try.func13 rfl rfl (hdiff A B n ca m cb la lb w1 (S1.rd ha) (S1.rd hb) (by omega) (by omega)) rfl rfl ?_)
    rintro e3 w3 ⟨v3, rfl, l3, AR, mR, cR, rfl, O3⟩
    refine ⟨_, rfl, ?_⟩
    have S3 := S1.adopt l3 O3
    have hmR := pf_n (S3.row 0 rfl)
    have hok := DH_ok KM_ok la lb
    have hDl := DHK_len la lb
    refine L_y (y_move rfl) rfl ?_
    refine L_y (y_extract rfl rfl) rfl ?_
    refine L_y (y_extract rfl rfl) rfl ?_
    refine L_y (y_assign rfl) rfl ?_
    refine L_y (y_assign rfl) rfl ?_
    refine L_nil ?_
    refine hK5 _ _ ?_
    refine T_seq fun K6 hK6 => ?_
    refine T_seq fun K7 hK7 => ?_
    refine T_region ?_
    refine L_y (y_move rfl) rfl ?_
    refine L_y (y_neq rfl rfl) rfl ?_
    refine L_y (y_move rfl) rfl ?_
    refine L_split 20 rfl (fun h20 => ?_) (fun h20 => ?_)
    ·
      exact absurd rfl h20
    ·
      refine L_gyes rfl rfl ?_
      refine L_y (y_move rfl) rfl ?_
      refine L_gyes rfl rfl ?_
      refine L_y (y_len Try.underlying22 rfl) rfl ?_
      refine L_gyes rfl rfl ?_
      refine L_y (y_move rfl) rfl ?_
      refine L_gyes rfl rfl ?_
      refine L_y (y_len Try.underlying22 rfl) rfl ?_
      refine L_gyes rfl rfl ?_
      refine L_y (y_move rfl) rfl ?_
      refine L_gyes rfl rfl ?_
      refine L_o (o_call Try.func16 rfl rfl (rcheck n m AR mR cR (DH KM la lb) w3 (S3.row 0 rfl) (by omega) (by omega) (fun p hp => by have := hok.1 p hp; omega) (fun i j p q hij hp hq => by have h5 := (List.getElem?_eq_some_iff.1 hp); have h6 := (List.getElem?_eq_some_iff.1 hq); obtain ⟨h7, rfl⟩ := h5; obtain ⟨h8, rfl⟩ := h6; exact List.pairwise_iff_getElem.1 hok.2 i j h7 h8 hij)) rfl rfl ?_)
      rintro e5 w5 ⟨v5, rfl, l5, rfl⟩
      refine ⟨_, rfl, ?_⟩
      have S5 := S3.like l5
      refine L_gyes rfl rfl ?_
      refine L_y (y_neq rfl rfl) rfl ?_
      refine L_y ((by first | exact y_pickT rfl rfl | exact y_pickF rfl rfl)) rfl ?_
      refine L_nil ?_
      refine hK7 _ _ ?_
      refine T_cond rfl (fun h28 => ?_) (fun h28 => ?_)
      ·
        exact absurd rfl h28
      ·
        refine T_skip ?_
        refine hK6 _ _ ?_
        refine T_seq fun K8 hK8 => ?_
        refine T_seq fun K9 hK9 => ?_
        refine T_region ?_
        refine L_y (y_assign rfl) rfl ?_
        refine L_nil ?_
        refine hK9 _ _ ?_
        refine T_block ?_
        refine T_loop1 [(0, _), (1, _), (5, _)] (fun (k : Nat) => [(7, .int .i64 (k : Int))]) (fun (k : Nat) => mR - k) (fun (k : Nat) (w : World) => k ≤ mR ∧ St w0 noM [row 34 2 AR mR cR ((DH KM la lb).flatMap pf)] w) 0 (Sub.cons rfl (by first | rfl | exact congrArg (Value.int _) (by omega)) (Sub.nil _)) (Sub.cons rfl rfl (Sub.cons rfl rfl (Sub.cons rfl rfl (Sub.nil _)))) ?_ ?_
        ·
          exact ⟨Nat.zero_le _, S5⟩
        ·
          intro k w6 hrel
          obtain ⟨hk, S6⟩ := hrel
          refine T_seq fun K10 hK10 => ?_
          refine T_seq fun K11 hK11 => ?_
          refine T_region ?_
          refine L_y (y_move rfl) rfl ?_
          refine L_y (y_move rfl) rfl ?_
          refine L_y (y_len Try.underlying25 rfl) rfl ?_
          refine L_y (y_lss rfl rfl) rfl ?_
          refine L_nil ?_
          refine hK11 _ _ ?_
          refine T_cond rfl (fun h32 => ?_) (fun h32 => ?_)
          ·
            obtain ⟨p, hp⟩ : ∃ p, (DH KM la lb)[k]? = some p := ⟨_, List.getElem?_eq_getElem (by omega)⟩
            have hpb := hok.1 p (List.mem_of_getElem? hp)
            obtain ⟨x, hx⟩ : ∃ x, la[p.1]? = some x := ⟨_, List.getElem?_eq_getElem (by omega)⟩
            have hy : lb[p.2]? = some x := by rw [← hpb.2.2.2.2]; exact hx
            refine T_skip ?_
            refine hK10 _ _ ?_
            refine T_seq fun K12 hK12 => ?_
            refine T_block ?_
            refine T_seq fun K13 hK13 => ?_
            refine T_drawnL [(0, true), (1, true), (2, true), (3, true), (4, true), (5, true), (6, true), (7, true), (8, true), (9, true), (10, true), (11, true), (12, true), (13, true), (14, true), (15, true), (16, true)] hmix (by kernel_rfl) fun w7 l7 => ?_
            have S7 := S6.like l7
            refine DL_y rfl (y_move rfl) rfl ?_
            refine DL_y rfl (y_move rfl) rfl ?_
            refine DL_y rfl (y_move rfl) rfl ?_
            refine DL_y rfl (y_idx Try.underlying25 sz34 rfl rfl (S7.row 0 rfl) (Nt.mk rfl : Nt _ (k)) (by omega)) rfl ?_
            refine DL_y rfl (y_fieldR 0 Try.underlying34 rfl sz3 rfl rfl (S7.row 0 rfl) (by omega) rfl) rfl ?_
            refine DL_y rfl (y_ldf Try.underlying3 rfl rfl (S7.row 0 rfl) (by omega) (pf_get _ _ _ hp).1) rfl ?_
            refine DL_y rfl (y_idx Try.underlying22 sz3 rfl rfl (S7.rd ha) (Nt.mk rfl : Nt _ (p.1)) (by omega)) rfl ?_
            refine DL_y rfl (y_ldr Try.underlying3 rfl rfl (S7.rd ha) (iL_get _ _ _ hx)) rfl ?_
            refine DL_y rfl (y_move rfl) rfl ?_
            refine DL_y rfl (y_move rfl) rfl ?_
            refine DL_y rfl (y_move rfl) rfl ?_
            refine DL_y rfl (y_idx Try.underlying25 sz34 rfl rfl (S7.row 0 rfl) (Nt.mk rfl : Nt _ (k)) (by omega)) rfl ?_
            refine DL_y rfl (y_fieldR 1 Try.underlying34 rfl sz3 rfl rfl (S7.row 0 rfl) (by omega) rfl) rfl ?_
            refine DL_y rfl (y_ldf Try.underlying3 rfl rfl (S7.row 0 rfl) (by omega) (pf_get _ _ _ hp).2) rfl ?_
            refine DL_y rfl (y_idx Try.underlying22 sz3 rfl rfl (S7.rd hb) (Nt.mk rfl : Nt _ (p.2)) (by omega)) rfl ?_
            refine DL_y rfl (y_ldr Try.underlying3 rfl rfl (S7.rd hb) (iL_get _ _ _ hy)) rfl ?_
            refine DL_y rfl (y_neq rfl rfl) rfl ?_
            refine DL_nil ?_
            refine hK13 _ _ ?_
            refine T_cond rfl (fun h51 => ?_) (fun h51 => ?_)
            ·
              exact absurd rfl h51
            ·
              refine T_skip ?_
              refine hK12 _ _ ?_
              refine T_region ?_
              refine L_y (y_move rfl) rfl ?_
              refine L_y (y_add rfl rfl (i64w (by omega))) rfl ?_
              refine L_y (y_assign rfl) rfl ?_
              refine L_nil ?_
              refine ⟨k + 1, by omega, ⟨by omega, S7⟩, ?_⟩
              exact (Sub.cons rfl (by first | rfl | exact congrArg (Value.int _) (by omega)) (Sub.cons rfl rfl (Sub.cons rfl rfl (Sub.cons rfl rfl (Sub.nil _)))))
          ·
            refine T_exit ?_
            refine hK8 _ _ ?_
            refine T_seq fun K14 hK14 => ?_
            refine T_region ?_
            refine L_y (y_move rfl) rfl ?_
            refine L_y (y_len Try.underlying25 rfl) rfl ?_
            refine L_y (y_gtr rfl rfl) rfl ?_
            refine L_y (y_move rfl) rfl ?_
            refine L_y (y_move rfl) rfl ?_
            refine L_o (o_call Try.func17 rfl rfl (rlcs A B n ca m cb la lb w6 (S6.rd ha) (S6.rd hb) (by omega) (by omega)) rfl rfl ?_)
            rintro e8 w8 ⟨v8, rfl, l8, rfl⟩
            refine ⟨_, rfl, ?_⟩
            have S8 := S6.like l8
            refine L_y (y_gtr rfl rfl) rfl ?_
            refine L_y (y_eqb Try.underlying4 rfl rfl (by rw [hmR]; exact DH_lC la lb)) rfl ?_
            refine L_y (y_move rfl) rfl ?_
            refine L_gyes rfl rfl ?_
            refine L_o (o_call Try.func12 rfl rfl (works24 w8) rfl rfl ?_)
            rintro e9 w9 ⟨v9, rfl, l9, rfl⟩
            refine ⟨_, rfl, ?_⟩
            have S9 := S8.like l9
            refine L_y ((by first | exact y_pickT rfl rfl | exact y_pickF rfl rfl)) rfl ?_
            refine L_y (y_assign rfl) rfl ?_
            refine L_nil ?_
            refine hK14 _ _ ?_
            refine T_ret ?_
            repeat (first | with_reducible refine up_then ?_ | with_reducible refine up_in ?_)
            refine ret1 rfl rfl ?_
            exact ⟨_, rfl, S9.like0, rfl⟩


theorem hkeeps_law (A B : Option Addr) (n ca m cb : Nat) (la lb : List Int) (w0 : World) (ha : Rs w0 1 A n ca (iL la)) (hb : Rs w0 1 B m cb (iL lb))  :
    Calls Try.prog 4 #[.slice A n ca, .slice B m cb] w0 fun e w' => e = .returned (.bool true) ∧ Below w0.heap.size w0 w' :=
  (hkeeps A B n ca m cb la lb w0 ha hb ).mono fun e w' ⟨u, h1, h2, h3⟩ => by subst h3; exact ⟨h1, h2⟩
end Go.Proofs.Ytbbmkgpgiacdeaa
