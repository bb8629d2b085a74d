import Derived.Test.YtgaklngnfecdaaaGreatMgPTurned7
import Derived.Test.YtgaklngnfecdaaaGreatMgPTurned5
set_option linter.unusedSimpArgs false
set_option linter.unusedVariables false
set_option maxRecDepth 100000
set_option maxHeartbeats 1000000
namespace Go.Proofs.YtgaklngnfecdaaaGreat.Pak
open Go.RowKit Zk Zx
open Sha (N xorN andN notN N_ge N_le)
open Go.Proofs.YtgaklngnfecdaaaGreat.Obj (objE objB nameI nameI_len nameI_ok nameI_no zB zB_len rs_tail)
open Oct (vaN rwL rwP rwE rnL rnP rnE be vr tl length_tl)
open Del (scA opf OP OkO mkV encV putR readV aplR)
def pkL (g : Nat) (A : Option Addr) (n c : Nat) (A1 : Option Addr) (c1 : Nat) (A2 : Option Addr) (c2 : Nat) (A3 : Option Addr) (c3 : Nat) (its : List It) (s : Pk) : List Res :=
  [row 65 2 A1 its.length c1 (its.flatMap itf), row 67 34 A2 s.os.length c2 (s.os.flatMap plO), row 3 1 A3 s.os.length c3 (s.os.map depV), wu (.slice A1 its.length c1) (.slice A2 s.os.length c2) (.slice A3 s.os.length c3) g A n c s.bs]
def OkM (w : World) (M : Nat → Prop) (p : Part) : Prop := p.ok w ∧ ∀ ad, 0 < p.n → p.A = some ad → ¬ M ad.block
theorem St.okM {w0 w : World} {M : Nat → Prop} {rs : List Res} (S : St w0 M rs w) {p : Part} (h : OkM w0 M p) : p.ok w := S.rdM h.1 h.2
theorem St.okI {w0 w : World} {M : Nat → Prop} {rs : List Res} (S : St w0 M rs w) {its : List It} (h : ∀ x ∈ its, OkM w0 M x.p) : OkI w its := fun x hx => St.okM S (h x hx)
theorem q_fr {w0 w : World} {p : Part} {r : Int × List UInt8} {q : Part} (h : QOk w0 w p r q) (hr : 0 ≤ r.1) : Fr w0 w 1 q.A q.n q.c (bL q.l) := by
  rcases h.src with ⟨h1, _⟩ | ⟨_, h2⟩
  · omega
  · exact ⟨h.ok, h2⟩
theorem q_eq {w0 w : World} {p : Part} {r : Int × List UInt8} {q : Part} (h : QOk w0 w p r q) (hr : r.1 = -1) : q = p := by
  rcases h.src with ⟨_, h1⟩ | ⟨h1, _⟩
  · exact h1
  · omega
theorem kindB {k : Int} (h : 1 ≤ k ∧ k ≤ 4) : IntKind.u8.wrap k = ((UInt8.ofNat k.toNat).toNat : Int) := by
  rw [IntKind.wrap_u8, UInt8.toNat_ofNat']
  omega
theorem subU {n m : Nat} (h : m ≤ n) (h2 : n ≤ 1000000) : IntKind.u64.wrap ((n : Int) - (m : Int)) = ((n - m : Nat) : Int) := by
  rw [IntKind.wrap_u64]
  omega
theorem plOl (o : Ob) (k : Nat) : (plO o)[32 + k]? = [Value.int .i64 (o.at_ : Int), .int .u32 (N o.sum)][k]? := by
  unfold plO
  rw [List.getElem?_append_right (by rw [length_bL, Ob.id_len]; omega), length_bL, Ob.id_len]
  congr 1
  omega
theorem plOl32 (o : Ob) : (plO o)[32]? = some (.int .i64 (o.at_ : Int)) := plOl o 0
theorem list32 {α : Type} (l : List α) (h : l.length = 32) : ∃ a0 a1 a2 a3 a4 a5 a6 a7 a8 a9 a10 a11 a12 a13 a14 a15 a16 a17 a18 a19 a20 a21 a22 a23 a24 a25 a26 a27 a28 a29 a30 a31, l = [a0, a1, a2, a3, a4, a5, a6, a7, a8, a9, a10, a11, a12, a13, a14, a15, a16, a17, a18, a19, a20, a21, a22, a23, a24, a25, a26, a27, a28, a29, a30, a31] := by
  match l, h with
  | [a0, a1, a2, a3, a4, a5, a6, a7, a8, a9, a10, a11, a12, a13, a14, a15, a16, a17, a18, a19, a20, a21, a22, a23, a24, a25, a26, a27, a28, a29, a30, a31], _ => exact ⟨a0, a1, a2, a3, a4, a5, a6, a7, a8, a9, a10, a11, a12, a13, a14, a15, a16, a17, a18, a19, a20, a21, a22, a23, a24, a25, a26, a27, a28, a29, a30, a31, rfl⟩
theorem built_pl {id : List UInt8} (h : id.length = 32) (a s : Int) : Tryz.prog.built 67 [(0, .agg (bA id)), (1, .int .i64 a), (2, .int .u32 s)] = some (bL id ++ [Value.int .i64 a, Value.int .u32 s]).toArray := by
  obtain ⟨a0, a1, a2, a3, a4, a5, a6, a7, a8, a9, a10, a11, a12, a13, a14, a15, a16, a17, a18, a19, a20, a21, a22, a23, a24, a25, a26, a27, a28, a29, a30, a31, rfl⟩ := list32 id h
  kernel_rfl
theorem lay_w {s : Pk} {v : IV} {r : Int × List UInt8} (h : r.1 < 0) : layO s v r = ⟨s.bs ++ entB (UInt8.ofNat v.1.toNat) [] r.2, s.os ++ [⟨v.1, v.2, 0, s.bs.length, crcL r.2⟩]⟩ := by unfold layO; rw [if_pos h]
theorem lay_m {s : Pk} {v : IV} {r : Int × List UInt8} {k : Nat} {o : Ob} (h : r.1 = (k : Int)) (ho : s.os[k]? = some o) : layO s v r = ⟨s.bs ++ entB 5 (vr (s.bs.length - o.at_)) r.2, s.os ++ [⟨v.1, v.2, o.dep + 1, s.bs.length, crcL r.2⟩]⟩ := by
  unfold layO
  rw [if_neg (by omega)]
  have e : r.1.toNat = k := by omega
  unfold ofAt ofDep
  rw [e, ho]
  rfl
theorem add0 (g : Nat) (A : Option Addr) (n c : Nat) (A1 : Option Addr) (c1 : Nat) (A2 : Option Addr) (c2 : Nat) (A3 : Option Addr) (c3 : Nat) (its : List It) (s : Pk) (x : It) (chain : Int) (w0 : World) (hw : (sepL (pkL g A n c A1 c1 A2 c2 A3 c3 its s)).holds w0) (hio : Same its s.os) (hits : ∀ y ∈ its, OkM w0 (sepL (pkL g A n c A1 c1 A2 c2 A3 c3 its s)).dom y.p) (hsm : ∀ y ∈ its, y.p.n ≤ 300) (hp : OkM w0 (sepL (pkL g A n c A1 c1 A2 c2 A3 c3 its s)).dom x.p) (hp3 : x.p.n ≤ 300) (hk : 1 ≤ x.kind ∧ x.kind ≤ 4) (hc8 : chain ≤ 8) (hbl : s.bs.length ≤ 20000) (hil : its.length ≤ 1000) (hat : ∀ o ∈ s.os, o.at_ ≤ s.bs.length) (hr : (toldV s.os chain x.kind x.p.l).1 = -1) :
    Calls Tryz.prog 57 #[.pointer (some ⟨g, 0, none⟩), .agg (itf x).toArray, .agg (bA (nameI x.kind x.p.l)), .int .i64 chain] w0 fun e w' => ∃ u, e = .returned u ∧ u = .tuple #[] ∧ ∃ A' n' c' A1' c1' A2' c2' A3' c3', Turned w0 w' (sepL (pkL g A n c A1 c1 A2 c2 A3 c3 its s)) (sepL (pkL g A' n' c' A1' c1' A2' c2' A3' c3' (its ++ [x]) (addV chain s (x.kind, x.p.l)))) := by
 refine enter1 (env := [(0, .pointer (some ⟨g, 0, none⟩)), (1, .agg (itf x).toArray), (2, .agg (bA (nameI x.kind x.p.l))), (3, .int .i64 chain)]) [.pointer (some ⟨g, 0, none⟩), .agg (itf x).toArray, .agg (bA (nameI x.kind x.p.l)), .int .i64 chain] Tryz.func57 rfl Tryz.ntmps57 rfl rfl ?_; have S0 := St.borrowL hw; have hnw := wu_len (S0.get 3 rfl); subst hnw; have hxb := hp.1.lenb; have htl := (told_ok s.os chain x.kind x.p.l).2; have hsl := hio.len; have hneg : (toldV s.os chain x.kind x.p.l).1 < 0 := by omega
 have S0 : Zx.St w0 (sepL (pkL g A s.bs.length c A1 c1 A2 c2 A3 c3 its s)).dom [row 65 2 A1 its.length c1 (its.flatMap itf), row 67 34 A2 s.os.length c2 (s.os.flatMap plO), row 3 1 A3 s.os.length c3 (s.os.map depV), wu (.slice A1 its.length c1) (.slice A2 s.os.length c2) (.slice A3 s.os.length c3) g A s.bs.length c s.bs] w0 := S0; refine T_seq fun K1 hK1 => T_region (L_o (o_box rfl S0 rfl fun b1 w1 hb1 S1 => L_o (o_box rfl S1 rfl fun b2 w2 hb2 S2 => L_nil (hK1 _ _ (T_seq fun K2 hK2 => T_region (L_y (y_move rfl) rfl (L_y (y_nilp rfl) rfl ?_))))))); refine L_y (y_fieldA 0 Tryz.underlying113 rfl sz110 rfl rfl rfl) rfl (L_o (o_call Tryz.func58 rfl rfl (wlenW g A s.bs.length c s.bs w2 (S2.get 3 rfl)) rfl rfl ?_)); rintro e3 w3 ⟨v3, rfl, l3, rfl⟩; refine ⟨_, rfl, ?_⟩; have S3 := S2.like l3; refine L_y (y_assign rfl) rfl (L_nil (hK2 _ _ (T_seq fun K3 hK3 => T_region (L_y (y_move rfl) rfl (L_y (y_ldW Tryz.underlying65 rfl sz65 rfl (S3.blk 4 rfl) (show _ = itf x ∧ _ from ⟨rfl, rfl⟩)) rfl (L_y (y_move rfl) rfl (L_o (o_call Tryz.func90 rfl rfl (shortest g _ _ A1 its.length c1 A3 s.os.length c3 its s.os x.kind chain x.p w3 (S3.get 3 rfl).1 (S3.row 0 rfl) (S3.row 2 rfl) hio (by omega) (St.okI S3 hits) (fun y hy => (hsm y hy)) (St.okM S3 hp) hp3) rfl rfl ?_)))))))); rintro e4 w4 ⟨v4, rfl, l4, q, rfl, hq⟩; refine ⟨_, rfl, ?_⟩; have S4 := S3.like l4; obtain rfl := q_eq hq hr; have hv := hq.val; have hva := Oct.vr_len10 x.p.n (by omega); refine L_y (y_move rfl) rfl (L_y (y_extract rfl rfl) rfl (L_y (y_extract rfl rfl) rfl (L_y (y_assign rfl) rfl (L_y (y_assign rfl) rfl (L_nil (hK3 _ _ (T_seq fun K4 hK4 => T_region (L_y (y_assign rfl) rfl ?_)))))))); refine L_nil (hK4 _ _ (T_seq fun K5 hK5 => T_seq fun K6 hK6 => T_region (L_y (y_move rfl) rfl (L_y (y_lss rfl rfl) rfl (L_nil (hK6 _ _ ?_)))))); refine T_cond rfl (fun h25 => ?_) (fun h25 => ?_)
 ·
  refine T_seq fun K7 hK7 => T_tail 6 hmix (by kernel_rfl) fun w5 l5 K8 hK8 => ?_; have S5 := S4.like l5; refine HL_y (y_move rfl) rfl (HL_y (y_nilp rfl) rfl (HL_y (y_fieldA 0 Tryz.underlying113 rfl sz110 rfl rfl rfl) rfl (HL_y (y_fieldA 0 Tryz.underlying65 rfl sz3 rfl rfl rfl) rfl (HL_y (y_ldc Tryz.underlying3 rfl rfl (((S5.blk 4 rfl).cell _).trans (by rfl))) rfl ?_)))); refine HL_y (y_conv is3 Tryz.underlying5 rfl (kindB hk)) rfl (HL_nil (hK8 _ (L_o (o_call Tryz.func89 rfl rfl (wbyteW g A s.bs.length c (s.bs) (UInt8.ofNat x.kind.toNat) w5 (S5.get 3 rfl) (by first | omega | (simp only [List.length_append, List.length_cons, List.length_nil, length_tl]; omega))) rfl rfl ?_)))); rintro e6 w6 ⟨v6, rfl, A6, n6, c6, T6⟩; refine ⟨_, rfl, ?_⟩; have S6 := S5.turn 3 rfl T6; refine L_nil (hK7 _ _ (T_region (L_y (y_move rfl) rfl (L_y (y_nilp rfl) rfl (L_y (y_fieldA 0 Tryz.underlying113 rfl sz110 rfl rfl rfl) rfl (L_y (y_move rfl) rfl (L_y (y_len Tryz.underlying22 rfl) rfl (L_y (y_conv is3 Tryz.underlying102 rfl (u64w (by omega))) rfl (L_o (o_call Tryz.func91 rfl rfl (wvarW g A6 n6 c6 (s.bs ++ [UInt8.ofNat x.kind.toNat]) x.p.n w6 (S6.get 3 rfl) (by omega) (by first | omega | (simp only [List.length_append, List.length_cons, List.length_nil, length_tl]; omega))) rfl rfl ?_)))))))))); rintro e7 w7 ⟨v7, rfl, A7, n7, c7, T7⟩; refine ⟨_, rfl, ?_⟩; have S7 := S6.turn 3 rfl T7; refine L_nil (hK5 _ _ (T_seq fun K9 hK9 => T_region (L_y (y_move rfl) rfl (L_o (o_bsl [_] te155 zz22 S7 rfl rfl rfl rfl rfl rfl rfl rfl fun b8 w8 S8 => L_o (o_call Tryz.func92 rfl rfl (of_ _ _ _ [x.p] w8 (S8.row 6 rfl) (fun y hy => by obtain rfl := List.mem_singleton.1 hy; exact (St.okM S8 hp))) rfl rfl ?_)))))); rintro e9 w9 ⟨v9, rfl, l9, rfl⟩; refine ⟨_, rfl, ?_⟩; have S9 := S8.like l9; refine L_y (y_assign rfl) rfl (L_nil (hK9 _ _ (T_seq fun K10 hK10 => T_region (L_y (y_move rfl) rfl (L_y (y_nilp rfl) rfl (L_y (y_fieldA 0 Tryz.underlying113 rfl sz110 rfl rfl rfl) rfl (L_y (y_move rfl) rfl (L_o (o_call Tryz.func56 rfl rfl (wu32W g A7 n7 c7 (s.bs ++ [UInt8.ofNat x.kind.toNat] ++ vr x.p.n) (crcL x.p.l).toNat w9 (S9.get 3 rfl) (by have := (crcL x.p.l).toNat_lt; omega) (by first | omega | (simp only [List.length_append, List.length_cons, List.length_nil, length_tl]; omega))) rfl rfl ?_))))))))); rintro e10 w10 ⟨v10, rfl, A10, n10, c10, T10⟩; refine ⟨_, rfl, ?_⟩; have S10 := S9.turn 3 rfl T10; refine L_nil (hK10 _ _ (T_seq fun K11 hK11 => T_region (L_y (y_move rfl) rfl (L_y (y_nilp rfl) rfl (L_y (y_fieldA 0 Tryz.underlying113 rfl sz110 rfl rfl rfl) rfl (L_y (y_move rfl) rfl (L_o (o_call Tryz.func55 rfl rfl (wrawW g A10 n10 c10 (s.bs ++ [UInt8.ofNat x.kind.toNat] ++ vr x.p.n ++ tl (crcL x.p.l).toNat 4) x.p.A x.p.n x.p.c x.p.l w10 (S10.get 3 rfl) (St.okM S10 hp) (by first | omega | (simp only [List.length_append, List.length_cons, List.length_nil, length_tl]; omega))) rfl rfl ?_)))))))); rintro e11 w11 ⟨v11, rfl, A11, n11, c11, T11⟩; refine ⟨_, rfl, ?_⟩; have S11 := S10.turn 3 rfl T11; refine L_nil (hK11 _ _ (T_seq fun K12 hK12 => ?_))
  have S12 := S11.splitAt 3 rfl (wu_apart (S11.get 3 rfl)); refine T_zed [1, 2, 3, 4, 5, 6] 7 [(0, 0), (1, 1), (2, 1), (3, 1), (4, 1), (5, 1), (6, 2), (7, 3), (8, 3), (9, 3), (10, 3)] hmix (by kernel_rfl) fun w13 l13 => ?_; have S13 := S12.like l13; refine ZA_y rfl (y_move rfl) rfl (ZA_B (Like w13) (Like.refl _) (ZB_y rfl (y_move rfl) rfl (ZB_y rfl (y_nilp rfl) rfl (ZB_y rfl (y_fieldA 1 Tryz.underlying113 rfl sz48 rfl rfl rfl) rfl (ZB_y rfl (y_ldc Tryz.underlying48 rfl rfl (((S13.blk 3 rfl).cell _).trans (by rfl))) rfl ?_))))); refine ZB_y rfl (y_ldW Tryz.underlying65 rfl sz65 rfl (S13.blk 4 rfl) (show _ = itf x ∧ _ from ⟨rfl, rfl⟩)) rfl (ZB_o rfl (o_bslL (itf x) te48 zz65 S13 rfl rfl rfl rfl (by simp [Value.cells]) rfl rfl rfl fun b14 w14 l14 S14 => ?_)); have q14 := l14; refine ⟨q14, (ZB_c rfl (o_app te48 S14 0 rfl rfl rfl (by first | exact S14.row 6 rfl | exact S14.row 8 rfl) (fun u hu => itf_one x u hu) rfl (by omega) (by omega) fun A15 c15 w15 S15 => ?_))⟩; have S15d := S15.drop (rs' := [_, _, _, _, _, _, _, _]) (.cons_cons _ (.cons_cons _ (.cons_cons _ (.cons_cons _ (.cons_cons _ (.cons_cons _ (.cons_cons _ (.cons_cons _ (.cons _ (.refl _)))))))))); refine ZA_oy rfl (y_nilp rfl) rfl (ZA_oy rfl (y_fieldA 1 Tryz.underlying113 rfl sz48 rfl rfl rfl) rfl (ZA_o rfl (o_st1 S15d 3 rfl rfl rfl rfl sz48 (by simp; done) fun w16 S16 => ?_))); refine ZA_nil (hK12 _ _ (T_seq fun K13 hK13 => T_zed [1, 2, 3, 4, 5, 6, 7, 8, 9] 10 [(0, 0), (1, 1), (2, 1), (3, 1), (4, 1), (5, 1), (6, 1), (7, 1), (8, 1), (9, 2), (10, 3), (11, 3), (12, 3), (13, 3)] hmix (by kernel_rfl) fun w17 l17 => ?_)); have S17 := S16.like l17; refine ZA_y rfl (y_move rfl) rfl (ZA_B (Like w17) (Like.refl _) (ZB_y rfl (y_move rfl) rfl (ZB_y rfl (y_nilp rfl) rfl (ZB_y rfl (y_fieldA 2 Tryz.underlying113 rfl sz50 rfl rfl rfl) rfl (ZB_y rfl (y_ldc Tryz.underlying50 rfl rfl (((S17.blk 3 rfl).cell _).trans (by rfl))) rfl ?_))))); refine ZB_y rfl (y_ldW Tryz.underlying41 rfl sz41 rfl (S17.blk 5 rfl) (id_part (x.kind, x.p.l))) rfl (ZB_y rfl (y_move rfl) rfl (ZB_y rfl (y_move rfl) rfl (ZB_y rfl (y_build rfl (built_pl (nameI_len _ _) _ _)) rfl (ZB_o rfl (o_bslL (plO (⟨x.kind, x.p.l, 0, s.bs.length, crcL x.p.l⟩ : Ob)) te50 zz67 S17 rfl rfl rfl (by simp [Value.cells, length_bL, nameI_len]) (by simp [Value.cells, plO, Ob.id]; rfl) rfl rfl rfl fun b18 w18 l18 S18 => ?_))))); have q18 := l18; refine ⟨q18, (ZB_c rfl (o_app te50 S18 1 rfl rfl rfl (by first | exact S18.row 6 rfl | exact S18.row 8 rfl) (fun u hu => plO_one _ u hu) rfl (by omega) (by omega) fun A19 c19 w19 S19 => ?_))⟩; have S19d := S19.drop (rs' := [_, _, _, _, _, _, _, _]) (.cons_cons _ (.cons_cons _ (.cons_cons _ (.cons_cons _ (.cons_cons _ (.cons_cons _ (.cons_cons _ (.cons_cons _ (.cons _ (.refl _)))))))))); refine ZA_oy rfl (y_nilp rfl) rfl (ZA_oy rfl (y_fieldA 2 Tryz.underlying113 rfl sz50 rfl rfl rfl) rfl (ZA_o rfl (o_st1 S19d 3 rfl rfl rfl rfl sz50 (by simp; done) fun w20 S20 => ?_))); refine ZA_nil (hK13 _ _ (T_region (L_y (y_move rfl) rfl (L_y (y_move rfl) rfl (L_y (y_nilp rfl) rfl (L_y (y_fieldA 3 Tryz.underlying113 rfl sz111 rfl rfl rfl) rfl (L_y (y_ldc Tryz.underlying111 rfl rfl (((S20.blk 3 rfl).cell _).trans (by rfl))) rfl ?_)))))))
  refine L_y (y_move rfl) rfl (L_o (o_bsl [_] te111 zz3 S20 rfl rfl rfl rfl rfl rfl rfl rfl fun b21 w21 S21 => L_o (o_app te111 S21 2 rfl rfl rfl (by first | exact S21.row 6 rfl | exact S21.row 8 rfl) (by first | exact bL_one _ | exact iL_one _ | (intro u hu; simp at hu; subst hu; rfl) | (simp; done) | (simp [Value.oneCell']; done)) rfl (by omega) (by omega) fun A22 c22 w22 S22 => ?_))); have S22d := S22.drop (rs' := [_, _, _, _, _, _, _, _]) (.cons_cons _ (.cons_cons _ (.cons_cons _ (.cons_cons _ (.cons_cons _ (.cons_cons _ (.cons_cons _ (.cons_cons _ (.cons _ (.refl _)))))))))); refine L_y (y_nilp rfl) rfl (L_y (y_fieldA 3 Tryz.underlying113 rfl sz111 rfl rfl rfl) rfl (L_o (o_st1 S22d 3 rfl rfl rfl rfl sz111 (by simp; done) fun w23 S23 => ?_))); refine L_nil ?_; first | refine end0 (fn := Tryz.f57) rfl ?_ | (simp only [thenQ, inB, if_true]; refine end0 (fn := Tryz.f57) rfl ?_)
  have hbs : s.bs ++ [UInt8.ofNat x.kind.toNat] ++ vr x.p.n ++ tl (crcL x.p.l).toNat 4 ++ x.p.l = (addV chain s (x.kind, x.p.l)).bs := by unfold addV; rw [lay_w (s := s) (v := (x.kind, x.p.l)) hneg, ← hv]; unfold entB; rw [hxb]; simp only [List.append_assoc, List.nil_append, List.append_nil]
  have hos : (addV chain s (x.kind, x.p.l)).os = s.os ++ [(⟨x.kind, x.p.l, 0, s.bs.length, crcL x.p.l⟩ : Ob)] := by unfold addV; rw [lay_w (s := s) (v := (x.kind, x.p.l)) hneg, ← hv]
  have S80 := S23.sel [0, 1, 2, 3, 7] (by decide); have S81 := S80.rowc 0 rfl (n' := its.length + 1) (xs' := (its ++ [x]).flatMap itf) rfl (by simp); have S82 := S81.rowc 1 rfl (n' := s.os.length + 1) (xs' := (s.os ++ [(⟨x.kind, x.p.l, 0, s.bs.length, crcL x.p.l⟩ : Ob)]).flatMap plO) rfl (by simp); have S83 := S82.rowc 2 rfl (n' := s.os.length + 1) (xs' := (s.os ++ [(⟨x.kind, x.p.l, 0, s.bs.length, crcL x.p.l⟩ : Ob)]).map depV) rfl (by simp [depV]); have S84 := S83.rowc 4 rfl (n' := n11) (xs' := bL (addV chain s (x.kind, x.p.l)).bs) rfl (congrArg bL hbs); have hl1 : (its ++ [x]).length = its.length + 1 := by simp
  have hl2 : (addV chain s (x.kind, x.p.l)).os.length = s.os.length + 1 := by rw [hos]; simp
  have S85 := St.joinL (ps := [_, _, _]) (r := _) (s := _) S84; have S86 : Zx.St w0 _ (pkL g A11 n11 c11 A15 c15 A19 c19 A22 c22 (its ++ [x]) (addV chain s (x.kind, x.p.l))) w23 := S85.cast (by unfold pkL wu; rw [hl1, hl2, hos]; rfl); exact ⟨_, rfl, rfl, _, _, _, _, _, _, _, _, _, S86.turnedL⟩
 ·
  omega
theorem add1 (g : Nat) (A : Option Addr) (n c : Nat) (A1 : Option Addr) (c1 : Nat) (A2 : Option Addr) (c2 : Nat) (A3 : Option Addr) (c3 : Nat) (its : List It) (s : Pk) (x : It) (chain : Int) (w0 : World) (hw : (sepL (pkL g A n c A1 c1 A2 c2 A3 c3 its s)).holds w0) (hio : Same its s.os) (hits : ∀ y ∈ its, OkM w0 (sepL (pkL g A n c A1 c1 A2 c2 A3 c3 its s)).dom y.p) (hsm : ∀ y ∈ its, y.p.n ≤ 300) (hp : OkM w0 (sepL (pkL g A n c A1 c1 A2 c2 A3 c3 its s)).dom x.p) (hp3 : x.p.n ≤ 300) (hk : 1 ≤ x.kind ∧ x.kind ≤ 4) (hc8 : chain ≤ 8) (hbl : s.bs.length ≤ 20000) (hil : its.length ≤ 1000) (hat : ∀ o ∈ s.os, o.at_ ≤ s.bs.length) (k : Nat) (o : Ob) (hr : (toldV s.os chain x.kind x.p.l).1 = (k : Int)) (ho : s.os[k]? = some o) (hod : (o.dep : Int) < chain) :
    Calls Tryz.prog 57 #[.pointer (some ⟨g, 0, none⟩), .agg (itf x).toArray, .agg (bA (nameI x.kind x.p.l)), .int .i64 chain] w0 fun e w' => ∃ u, e = .returned u ∧ u = .tuple #[] ∧ ∃ A' n' c' A1' c1' A2' c2' A3' c3', Turned w0 w' (sepL (pkL g A n c A1 c1 A2 c2 A3 c3 its s)) (sepL (pkL g A' n' c' A1' c1' A2' c2' A3' c3' (its ++ [x]) (addV chain s (x.kind, x.p.l)))) := by
 refine enter1 (env := [(0, .pointer (some ⟨g, 0, none⟩)), (1, .agg (itf x).toArray), (2, .agg (bA (nameI x.kind x.p.l))), (3, .int .i64 chain)]) [.pointer (some ⟨g, 0, none⟩), .agg (itf x).toArray, .agg (bA (nameI x.kind x.p.l)), .int .i64 chain] Tryz.func57 rfl Tryz.ntmps57 rfl rfl ?_; have S0 := St.borrowL hw; have hnw := wu_len (S0.get 3 rfl); subst hnw; have hxb := hp.1.lenb; have htl := (told_ok s.os chain x.kind x.p.l).2; have hsl := hio.len; have hkl := (List.getElem?_eq_some_iff.1 ho).1; have hao := hat o (List.mem_of_getElem? ho); have hvb := Oct.vr_len10 (s.bs.length - o.at_) (by omega); have S0 : Zx.St w0 (sepL (pkL g A s.bs.length c A1 c1 A2 c2 A3 c3 its s)).dom [row 65 2 A1 its.length c1 (its.flatMap itf), row 67 34 A2 s.os.length c2 (s.os.flatMap plO), row 3 1 A3 s.os.length c3 (s.os.map depV), wu (.slice A1 its.length c1) (.slice A2 s.os.length c2) (.slice A3 s.os.length c3) g A s.bs.length c s.bs] w0 := S0; refine T_seq fun K1 hK1 => T_region (L_o (o_box rfl S0 rfl fun b1 w1 hb1 S1 => L_o (o_box rfl S1 rfl fun b2 w2 hb2 S2 => L_nil (hK1 _ _ (T_seq fun K2 hK2 => T_region (L_y (y_move rfl) rfl (L_y (y_nilp rfl) rfl ?_))))))); refine L_y (y_fieldA 0 Tryz.underlying113 rfl sz110 rfl rfl rfl) rfl (L_o (o_call Tryz.func58 rfl rfl (wlenW g A s.bs.length c s.bs w2 (S2.get 3 rfl)) rfl rfl ?_)); rintro e3 w3 ⟨v3, rfl, l3, rfl⟩; refine ⟨_, rfl, ?_⟩; have S3 := S2.like l3; refine L_y (y_assign rfl) rfl (L_nil (hK2 _ _ (T_seq fun K3 hK3 => T_region (L_y (y_move rfl) rfl (L_y (y_ldW Tryz.underlying65 rfl sz65 rfl (S3.blk 4 rfl) (show _ = itf x ∧ _ from ⟨rfl, rfl⟩)) rfl (L_y (y_move rfl) rfl (L_o (o_call Tryz.func90 rfl rfl (shortest g _ _ A1 its.length c1 A3 s.os.length c3 its s.os x.kind chain x.p w3 (S3.get 3 rfl).1 (S3.row 0 rfl) (S3.row 2 rfl) hio (by omega) (St.okI S3 hits) (fun y hy => (hsm y hy)) (St.okM S3 hp) hp3) rfl rfl ?_)))))))); rintro e4 w4 ⟨v4, rfl, l4, q, rfl, hq⟩; refine ⟨_, rfl, ?_⟩; have S4 := S3.adoptF l4 (q_fr hq (by omega)); have hv := hq.val; rw [← hv] at htl; have hqn := hq.ok.lenb; have hva := Oct.vr_len10 q.n (by omega); refine L_y (y_move rfl) rfl (L_y (y_extract rfl rfl) rfl (L_y (y_extract rfl rfl) rfl (L_y (y_assign rfl) rfl (L_y (y_assign rfl) rfl (L_nil (hK3 _ _ (T_seq fun K4 hK4 => T_region (L_y (y_assign rfl) rfl ?_)))))))); refine L_nil (hK4 _ _ (T_seq fun K5 hK5 => T_seq fun K6 hK6 => T_region (L_y (y_move rfl) rfl (L_y (y_lss rfl rfl) rfl (L_nil (hK6 _ _ ?_)))))); refine T_cond rfl (fun h25 => ?_) (fun h25 => ?_)
 ·
  omega
 ·
  refine T_seq fun K7 hK7 => T_region (L_y (y_move rfl) rfl (L_y (y_nilp rfl) rfl (L_y (y_fieldA 3 Tryz.underlying113 rfl sz111 rfl rfl rfl) rfl (L_y (y_ldc Tryz.underlying111 rfl rfl (((S4.get 3 rfl).1.cell _).trans (by rfl))) rfl ?_)))); refine L_y (y_move rfl) rfl (L_y (y_idx Tryz.underlying111 sz3 rfl rfl (S4.row 2 rfl) (Nt.mk (by omega) : Nt _ (k)) (by omega)) rfl (L_y (y_ldr Tryz.underlying3 rfl rfl (S4.row 2 rfl) (dep_get ho)) rfl (L_y (y_add rfl rfl (i64w (by omega))) rfl (L_y (y_assign rfl) rfl (L_nil (hK7 _ _ (T_seq fun K8 hK8 => T_region (L_y (y_move rfl) rfl ?_)))))))); refine L_y (y_nilp rfl) rfl (L_y (y_fieldA 0 Tryz.underlying113 rfl sz110 rfl rfl rfl) rfl (L_o (o_call Tryz.func89 rfl rfl (wbyteW g A s.bs.length c (s.bs) 5 w4 (S4.get 3 rfl) (by first | omega | (simp only [List.length_append, List.length_cons, List.length_nil, length_tl]; omega))) rfl rfl ?_))); rintro e5 w5 ⟨v5, rfl, A5, n5, c5, T5⟩; refine ⟨_, rfl, ?_⟩; have S5 := S4.turn 3 rfl T5; refine L_nil (hK8 _ _ (T_seq fun K9 hK9 => T_region (L_y (y_move rfl) rfl (L_y (y_nilp rfl) rfl (L_y (y_fieldA 0 Tryz.underlying113 rfl sz110 rfl rfl rfl) rfl (L_y (y_move rfl) rfl (L_y (y_len Tryz.underlying22 rfl) rfl (L_y (y_conv is3 Tryz.underlying102 rfl (u64w (by omega))) rfl ?_)))))))); refine L_o (o_call Tryz.func91 rfl rfl (wvarW g A5 n5 c5 (s.bs ++ [5]) q.n w5 (S5.get 3 rfl) (by omega) (by first | omega | (simp only [List.length_append, List.length_cons, List.length_nil, length_tl]; omega))) rfl rfl ?_); rintro e6 w6 ⟨v6, rfl, A6, n6, c6, T6⟩; refine ⟨_, rfl, ?_⟩; have S6 := S5.turn 3 rfl T6; refine L_nil (hK9 _ _ (T_tail 14 hmix (by kernel_rfl) fun w7 l7 K10 hK10 => ?_)); have S7 := S6.like l7; refine HL_y (y_move rfl) rfl (HL_y (y_nilp rfl) rfl (HL_y (y_fieldA 0 Tryz.underlying113 rfl sz110 rfl rfl rfl) rfl (HL_y (y_move rfl) rfl (HL_y (y_move rfl) rfl (HL_y (y_nilp rfl) rfl (HL_y (y_fieldA 2 Tryz.underlying113 rfl sz50 rfl rfl rfl) rfl (HL_y (y_ldc Tryz.underlying50 rfl rfl (((S7.get 3 rfl).1.cell _).trans (by rfl))) rfl ?_))))))); refine HL_y (y_move rfl) rfl (HL_y (y_idx Tryz.underlying50 sz67 rfl rfl (S7.row 1 rfl) (Nt.mk (by omega) : Nt _ (k)) (by omega)) rfl (HL_y (y_fieldR 32 Tryz.underlying67 rfl sz3 rfl rfl (S7.row 1 rfl) (by omega) rfl) rfl (HL_y (y_ldf Tryz.underlying3 rfl rfl (S7.row 1 rfl) (by omega) ((flat_at plO 34 plO_len s.os k o ho 32 (by omega)).trans (plOl32 o))) rfl (HL_y (y_sub rfl rfl (i64w (by omega))) rfl (HL_y (y_conv is3 Tryz.underlying102 rfl (subU (by omega) (by omega))) rfl (HL_nil (hK10 _ (L_o (o_call Tryz.func91 rfl rfl (wvarW g A6 n6 c6 (s.bs ++ [5] ++ vr q.n) (s.bs.length - o.at_) w7 (S7.get 3 rfl) (by omega) (by first | omega | (simp only [List.length_append, List.length_cons, List.length_nil, length_tl]; omega))) rfl rfl ?_))))))))); rintro e8 w8 ⟨v8, rfl, A8, n8, c8, T8⟩; refine ⟨_, rfl, ?_⟩; have S8 := S7.turn 3 rfl T8; refine L_nil (hK5 _ _ (T_seq fun K11 hK11 => T_region (L_y (y_move rfl) rfl (L_o (o_bsl [_] te155 zz22 S8 rfl rfl rfl rfl rfl rfl rfl rfl fun b9 w9 S9 => L_o (o_call Tryz.func92 rfl rfl (of_ _ _ _ [q] w9 (S9.row 7 rfl) (fun y hy => by obtain rfl := List.mem_singleton.1 hy; exact (S9.fix 6 rfl))) rfl rfl ?_))))))
  rintro e10 w10 ⟨v10, rfl, l10, rfl⟩; refine ⟨_, rfl, ?_⟩; have S10 := S9.like l10; refine L_y (y_assign rfl) rfl (L_nil (hK11 _ _ (T_seq fun K12 hK12 => T_region (L_y (y_move rfl) rfl (L_y (y_nilp rfl) rfl (L_y (y_fieldA 0 Tryz.underlying113 rfl sz110 rfl rfl rfl) rfl (L_y (y_move rfl) rfl (L_o (o_call Tryz.func56 rfl rfl (wu32W g A8 n8 c8 (s.bs ++ [5] ++ vr q.n ++ vr (s.bs.length - o.at_)) (crcL q.l).toNat w10 (S10.get 3 rfl) (by have := (crcL q.l).toNat_lt; omega) (by first | omega | (simp only [List.length_append, List.length_cons, List.length_nil, length_tl]; omega))) rfl rfl ?_))))))))); rintro e11 w11 ⟨v11, rfl, A11, n11, c11, T11⟩; refine ⟨_, rfl, ?_⟩; have S11 := S10.turn 3 rfl T11; refine L_nil (hK12 _ _ (T_seq fun K13 hK13 => T_region (L_y (y_move rfl) rfl (L_y (y_nilp rfl) rfl (L_y (y_fieldA 0 Tryz.underlying113 rfl sz110 rfl rfl rfl) rfl (L_y (y_move rfl) rfl (L_o (o_call Tryz.func55 rfl rfl (wrawW g A11 n11 c11 (s.bs ++ [5] ++ vr q.n ++ vr (s.bs.length - o.at_) ++ tl (crcL q.l).toNat 4) q.A q.n q.c q.l w11 (S11.get 3 rfl) (S11.fix 6 rfl) (by first | omega | (simp only [List.length_append, List.length_cons, List.length_nil, length_tl]; omega))) rfl rfl ?_)))))))); rintro e12 w12 ⟨v12, rfl, A12, n12, c12, T12⟩; refine ⟨_, rfl, ?_⟩; have S12 := S11.turn 3 rfl T12; refine L_nil (hK13 _ _ (T_seq fun K14 hK14 => ?_)); have S13 := S12.splitAt 3 rfl (wu_apart (S12.get 3 rfl)); refine T_zed [1, 2, 3, 4, 5, 6] 7 [(0, 0), (1, 1), (2, 1), (3, 1), (4, 1), (5, 1), (6, 2), (7, 3), (8, 3), (9, 3), (10, 3)] hmix (by kernel_rfl) fun w14 l14 => ?_; have S14 := S13.like l14; refine ZA_y rfl (y_move rfl) rfl (ZA_B (Like w14) (Like.refl _) (ZB_y rfl (y_move rfl) rfl (ZB_y rfl (y_nilp rfl) rfl (ZB_y rfl (y_fieldA 1 Tryz.underlying113 rfl sz48 rfl rfl rfl) rfl (ZB_y rfl (y_ldc Tryz.underlying48 rfl rfl (((S14.blk 3 rfl).cell _).trans (by rfl))) rfl ?_))))); refine ZB_y rfl (y_ldW Tryz.underlying65 rfl sz65 rfl (S14.blk 4 rfl) (show _ = itf x ∧ _ from ⟨rfl, rfl⟩)) rfl (ZB_o rfl (o_bslL (itf x) te48 zz65 S14 rfl rfl rfl rfl (by simp [Value.cells]) rfl rfl rfl fun b15 w15 l15 S15 => ?_)); have q15 := l15; refine ⟨q15, (ZB_c rfl (o_app te48 S15 0 rfl rfl rfl (by first | exact S15.row 7 rfl | exact S15.row 9 rfl) (fun u hu => itf_one x u hu) rfl (by omega) (by omega) fun A16 c16 w16 S16 => ?_))⟩; have S16d := S16.drop (rs' := [_, _, _, _, _, _, _, _, _]) (.cons_cons _ (.cons_cons _ (.cons_cons _ (.cons_cons _ (.cons_cons _ (.cons_cons _ (.cons_cons _ (.cons_cons _ (.cons_cons _ (.cons _ (.refl _))))))))))); refine ZA_oy rfl (y_nilp rfl) rfl (ZA_oy rfl (y_fieldA 1 Tryz.underlying113 rfl sz48 rfl rfl rfl) rfl (ZA_o rfl (o_st1 S16d 3 rfl rfl rfl rfl sz48 (by simp; done) fun w17 S17 => ?_))); refine ZA_nil (hK14 _ _ (T_seq fun K15 hK15 => T_zed [1, 2, 3, 4, 5, 6, 7, 8, 9] 10 [(0, 0), (1, 1), (2, 1), (3, 1), (4, 1), (5, 1), (6, 1), (7, 1), (8, 1), (9, 2), (10, 3), (11, 3), (12, 3), (13, 3)] hmix (by kernel_rfl) fun w18 l18 => ?_)); have S18 := S17.like l18; refine ZA_y rfl (y_move rfl) rfl (ZA_B (Like w18) (Like.refl _) (ZB_y rfl (y_move rfl) rfl (ZB_y rfl (y_nilp rfl) rfl (ZB_y rfl (y_fieldA 2 Tryz.underlying113 rfl sz50 rfl rfl rfl) rfl (ZB_y rfl (y_ldc Tryz.underlying50 rfl rfl (((S18.blk 3 rfl).cell _).trans (by rfl))) rfl ?_)))))
  refine ZB_y rfl (y_ldW Tryz.underlying41 rfl sz41 rfl (S18.blk 5 rfl) (id_part (x.kind, x.p.l))) rfl (ZB_y rfl (y_move rfl) rfl (ZB_y rfl (y_move rfl) rfl (ZB_y rfl (y_build rfl (built_pl (nameI_len _ _) _ _)) rfl (ZB_o rfl (o_bslL (plO (⟨x.kind, x.p.l, o.dep + 1, s.bs.length, crcL q.l⟩ : Ob)) te50 zz67 S18 rfl rfl rfl (by simp [Value.cells, length_bL, nameI_len]) (by simp [Value.cells, plO, Ob.id]; rfl) rfl rfl rfl fun b19 w19 l19 S19 => ?_))))); have q19 := l19; refine ⟨q19, (ZB_c rfl (o_app te50 S19 1 rfl rfl rfl (by first | exact S19.row 7 rfl | exact S19.row 9 rfl) (fun u hu => plO_one _ u hu) rfl (by omega) (by omega) fun A20 c20 w20 S20 => ?_))⟩; have S20d := S20.drop (rs' := [_, _, _, _, _, _, _, _, _]) (.cons_cons _ (.cons_cons _ (.cons_cons _ (.cons_cons _ (.cons_cons _ (.cons_cons _ (.cons_cons _ (.cons_cons _ (.cons_cons _ (.cons _ (.refl _))))))))))); refine ZA_oy rfl (y_nilp rfl) rfl (ZA_oy rfl (y_fieldA 2 Tryz.underlying113 rfl sz50 rfl rfl rfl) rfl (ZA_o rfl (o_st1 S20d 3 rfl rfl rfl rfl sz50 (by simp; done) fun w21 S21 => ?_))); refine ZA_nil (hK15 _ _ (T_region (L_y (y_move rfl) rfl (L_y (y_move rfl) rfl (L_y (y_nilp rfl) rfl (L_y (y_fieldA 3 Tryz.underlying113 rfl sz111 rfl rfl rfl) rfl (L_y (y_ldc Tryz.underlying111 rfl rfl (((S21.blk 3 rfl).cell _).trans (by rfl))) rfl ?_))))))); refine L_y (y_move rfl) rfl (L_o (o_bsl [_] te111 zz3 S21 rfl rfl rfl rfl rfl rfl rfl rfl fun b22 w22 S22 => L_o (o_app te111 S22 2 rfl rfl rfl (by first | exact S22.row 7 rfl | exact S22.row 9 rfl) (by first | exact bL_one _ | exact iL_one _ | (intro u hu; simp at hu; subst hu; rfl) | (simp; done) | (simp [Value.oneCell']; done)) rfl (by omega) (by omega) fun A23 c23 w23 S23 => ?_))); have S23d := S23.drop (rs' := [_, _, _, _, _, _, _, _, _]) (.cons_cons _ (.cons_cons _ (.cons_cons _ (.cons_cons _ (.cons_cons _ (.cons_cons _ (.cons_cons _ (.cons_cons _ (.cons_cons _ (.cons _ (.refl _))))))))))); refine L_y (y_nilp rfl) rfl (L_y (y_fieldA 3 Tryz.underlying113 rfl sz111 rfl rfl rfl) rfl (L_o (o_st1 S23d 3 rfl rfl rfl rfl sz111 (by simp; done) fun w24 S24 => ?_))); refine L_nil ?_; first | refine end0 (fn := Tryz.f57) rfl ?_ | (simp only [thenQ, inB, if_true]; refine end0 (fn := Tryz.f57) rfl ?_)
  have hbs : s.bs ++ [5] ++ vr q.n ++ vr (s.bs.length - o.at_) ++ tl (crcL q.l).toNat 4 ++ q.l = (addV chain s (x.kind, x.p.l)).bs := by unfold addV; rw [lay_m (s := s) (v := (x.kind, x.p.l)) hr ho, ← hv]; unfold entB; rw [hqn]; simp only [List.append_assoc, List.nil_append, List.append_nil]
  have hos : (addV chain s (x.kind, x.p.l)).os = s.os ++ [(⟨x.kind, x.p.l, o.dep + 1, s.bs.length, crcL q.l⟩ : Ob)] := by unfold addV; rw [lay_m (s := s) (v := (x.kind, x.p.l)) hr ho, ← hv]
  have S80 := S24.sel [0, 1, 2, 3, 8] (by decide); have S81 := S80.rowc 0 rfl (n' := its.length + 1) (xs' := (its ++ [x]).flatMap itf) rfl (by simp); have S82 := S81.rowc 1 rfl (n' := s.os.length + 1) (xs' := (s.os ++ [(⟨x.kind, x.p.l, o.dep + 1, s.bs.length, crcL q.l⟩ : Ob)]).flatMap plO) rfl (by simp); have S83 := S82.rowc 2 rfl (n' := s.os.length + 1) (xs' := (s.os ++ [(⟨x.kind, x.p.l, o.dep + 1, s.bs.length, crcL q.l⟩ : Ob)]).map depV) rfl (by simp [depV]); have S84 := S83.rowc 4 rfl (n' := n12) (xs' := bL (addV chain s (x.kind, x.p.l)).bs) rfl (congrArg bL hbs); have hl1 : (its ++ [x]).length = its.length + 1 := by simp
  have hl2 : (addV chain s (x.kind, x.p.l)).os.length = s.os.length + 1 := by rw [hos]; simp
  have S85 := St.joinL (ps := [_, _, _]) (r := _) (s := _) S84; have S86 : Zx.St w0 _ (pkL g A12 n12 c12 A16 c16 A20 c20 A23 c23 (its ++ [x]) (addV chain s (x.kind, x.p.l))) w24 := S85.cast (by unfold pkL wu; rw [hl1, hl2, hos]; rfl); exact ⟨_, rfl, rfl, _, _, _, _, _, _, _, _, _, S86.turnedL⟩
end Go.Proofs.YtgaklngnfecdaaaGreat.Pak
namespace Go.Proofs.YtgaklngnfecdaaaGreat.Pak
open Go.RowKit Zk Zx
open Sha (N)
open Oct (vaN rwL rwP rwE rnL rnP rnE be tkP tkE numF)
structure EV where
  kind : Int
  base : Int
  fin : Nat
  sum : UInt32
  load : List UInt8
def zE : EV := ⟨0, 0, 0, 0, []⟩
def opR (t : List UInt8) (at_ : Nat) (kind base : Int) (size : Nat) (p q : Nat) : Int × EV :=
  if rnE t (rwP t p q 4) (rwE t p q 4) (size : Int) ≠ 0 then ((rnE t (rwP t p q 4) (rwE t p q 4) (size : Int) : Int), zE)
  else if (crcL (rnL t (rwP t p q 4) (rwE t p q 4) (size : Int))).toNat ≠ be (rwL t p q 4) then (13, zE)
  else (0, ⟨kind, base, at_ + rnP t (rwP t p q 4) (rwE t p q 4) (size : Int), crcL (rnL t (rwP t p q 4) (rwE t p q 4) (size : Int)), rnL t (rwP t p q 4) (rwE t p q 4) (size : Int)⟩)
def opM (t : List UInt8) (at_ : Nat) (deep : Bool) (size p q : Nat) : Int × EV :=
  if (vaN t p q 1048576).2.2 = 0 ∧ ((vaN t p q 1048576).1 = 0 ∨ (at_ : Int) - (vaN t p q 1048576).1 < 12) then (21, zE)
  else if (vaN t p q 1048576).2.2 = 0 ∧ deep = true then (20, zE)
  else opR t at_ 5 ((at_ : Int) - (vaN t p q 1048576).1) size (vaN t p q 1048576).2.1 (vaN t p q 1048576).2.2
def opT (t : List UInt8) (x : UInt8) (at_ : Nat) (deep : Bool) : Int × EV :=
  if x.toNat < 1 ∨ 5 < x.toNat then (19, zE)
  else if x.toNat = 5 then opM t at_ deep (vaN t 1 0 4000).1 (vaN t 1 0 4000).2.1 (vaN t 1 0 4000).2.2
  else opR t at_ (x.toNat : Int) 0 (vaN t 1 0 4000).1 (vaN t 1 0 4000).2.1 (vaN t 1 0 4000).2.2
def tailB (b : List UInt8) (at_ : Nat) : List UInt8 := (b.drop at_).take (b.length - 32 - at_)
def opV (b : List UInt8) (at_ : Int) (deep : Bool) : Int × EV :=
  if b.length < 44 then (10, zE) else if at_ < 12 ∨ (b.length : Int) - 32 ≤ at_ then (2, zE)
  else opT (tailB b at_.toNat) (b[at_.toNat]?.getD 0) at_.toNat deep
section
variable {b : List UInt8} {at_ : Int} {deep : Bool}
theorem opV_10 (h : b.length < 44) : opV b at_ deep = (10, zE) := by unfold opV; rw [if_pos h]
theorem opV_2 (h : ¬ b.length < 44) (h2 : at_ < 12 ∨ (b.length : Int) - 32 ≤ at_) : opV b at_ deep = (2, zE) := by unfold opV; rw [if_neg h, if_pos h2]
theorem opV_t (h : ¬ b.length < 44) (h2 : ¬ (at_ < 12 ∨ (b.length : Int) - 32 ≤ at_)) {x : UInt8} (hx : b[at_.toNat]? = some x) : opV b at_ deep = opT (tailB b at_.toNat) x at_.toNat deep := by unfold opV; rw [if_neg h, if_neg h2, hx]; rfl
theorem tailB_len {n : Nat} (h : ¬ b.length < 44) (h2 : n < b.length - 32) : (tailB b n).length = b.length - 32 - n := by unfold tailB; rw [List.length_take, List.length_drop]; omega
theorem tailB_0 {n : Nat} (h : ¬ b.length < 44) (h2 : n < b.length - 32) : (tailB b n)[0]? = b[n]? := by
  unfold tailB
  rw [List.getElem?_take, if_pos (by omega), List.getElem?_drop, Nat.add_zero]
end
section
variable {t : List UInt8} {at_ : Nat} {deep : Bool} {x : UInt8} {size p q : Nat} {kind base : Int}
theorem opT_19 (h : x.toNat < 1 ∨ 5 < x.toNat) : opT t x at_ deep = (19, zE) := by unfold opT; rw [if_pos h]
theorem opT_5 (h : x.toNat = 5) : opT t x at_ deep = opM t at_ deep (vaN t 1 0 4000).1 (vaN t 1 0 4000).2.1 (vaN t 1 0 4000).2.2 := by unfold opT; rw [if_neg (by omega), if_pos h]
theorem opT_w (h : ¬ (x.toNat < 1 ∨ 5 < x.toNat)) (h5 : x.toNat ≠ 5) : opT t x at_ deep = opR t at_ (x.toNat : Int) 0 (vaN t 1 0 4000).1 (vaN t 1 0 4000).2.1 (vaN t 1 0 4000).2.2 := by unfold opT; rw [if_neg h, if_neg h5]
theorem opM_21 (h : (vaN t p q 1048576).2.2 = 0) (h2 : (vaN t p q 1048576).1 = 0 ∨ (at_ : Int) - (vaN t p q 1048576).1 < 12) : opM t at_ deep size p q = (21, zE) := by unfold opM; rw [if_pos ⟨h, h2⟩]
theorem opM_20 (h : (vaN t p q 1048576).2.2 = 0) (h2 : ¬ ((vaN t p q 1048576).1 = 0 ∨ (at_ : Int) - (vaN t p q 1048576).1 < 12)) (h3 : deep = true) : opM t at_ deep size p q = (20, zE) := by unfold opM; rw [if_neg (fun q => h2 q.2), if_pos ⟨h, h3⟩]
theorem opM_r (h : (vaN t p q 1048576).2.2 ≠ 0 ∨ (¬ ((vaN t p q 1048576).1 = 0 ∨ (at_ : Int) - (vaN t p q 1048576).1 < 12) ∧ deep = false)) : opM t at_ deep size p q = opR t at_ 5 ((at_ : Int) - (vaN t p q 1048576).1) size (vaN t p q 1048576).2.1 (vaN t p q 1048576).2.2 := by
  unfold opM
  rw [if_neg (fun q => h.elim (fun r => r q.1) (fun r => r.1 q.2)), if_neg (fun q => h.elim (fun r => r q.1) (fun r => by rw [r.2] at q; cases q.2))]
theorem opR_e (h : rnE t (rwP t p q 4) (rwE t p q 4) (size : Int) ≠ 0) : opR t at_ kind base size p q = ((rnE t (rwP t p q 4) (rwE t p q 4) (size : Int) : Int), zE) := by unfold opR; rw [if_pos h]
theorem opR_13 (h : rnE t (rwP t p q 4) (rwE t p q 4) (size : Int) = 0) (h2 : (crcL (rnL t (rwP t p q 4) (rwE t p q 4) (size : Int))).toNat ≠ be (rwL t p q 4)) : opR t at_ kind base size p q = (13, zE) := by unfold opR; rw [if_neg (fun q => q h), if_pos h2]
theorem opR_ok (h : rnE t (rwP t p q 4) (rwE t p q 4) (size : Int) = 0) (h2 : ¬ (crcL (rnL t (rwP t p q 4) (rwE t p q 4) (size : Int))).toNat ≠ be (rwL t p q 4)) : opR t at_ kind base size p q = (0, ⟨kind, base, at_ + rnP t (rwP t p q 4) (rwE t p q 4) (size : Int), crcL (rnL t (rwP t p q 4) (rwE t p q 4) (size : Int)), rnL t (rwP t p q 4) (rwE t p q 4) (size : Int)⟩) := by unfold opR; rw [if_neg (fun q => q h), if_neg h2]
theorem rwE_dead {k : Nat} (h : q ≠ 0) : rwE t p q k = q := by unfold rwE; rw [if_neg h]
theorem rnE_dead {m : Int} (h : q ≠ 0) : rnE t p q m = q := by
  unfold rnE
  split
  · first | rfl | rw [if_pos h]
  · exact rwE_dead h
theorem rnL_len (m : Nat) : (rnL t p q (m : Int)).length ≤ m := by
  unfold rnL
  rw [if_neg (by omega)]
  exact Oct.rw_le _ _ _ _
theorem opR_all : (opR t at_ kind base size p q).1 = 0 → q = 0 ∧ (opR t at_ kind base size p q).2.kind = kind ∧ (opR t at_ kind base size p q).2.base = base ∧ (opR t at_ kind base size p q).2.load.length ≤ size ∧ (opR t at_ kind base size p q).2.sum = crcL (opR t at_ kind base size p q).2.load := by
  by_cases h : rnE t (rwP t p q 4) (rwE t p q 4) (size : Int) = 0
  · have hq : q = 0 := Classical.byContradiction fun hq => by
      rw [rwE_dead hq, rnE_dead hq] at h
      exact hq h
    by_cases h2 : (crcL (rnL t (rwP t p q 4) (rwE t p q 4) (size : Int))).toNat ≠ be (rwL t p q 4)
    · rw [opR_13 h h2]; intro h3; exact absurd h3 (by decide)
    · rw [opR_ok h h2]
      exact fun _ => ⟨hq, rfl, rfl, rnL_len _, rfl⟩
  · rw [opR_e h]
    intro h3
    exact absurd h3 (by show ((rnE t (rwP t p q 4) (rwE t p q 4) (size : Int) : Nat) : Int) ≠ 0; omega)
end
theorem vaN_m (d : List UInt8) (p q m : Nat) : (vaN d p q m).1 ≤ m := by
  unfold vaN
  repeat' split
  all_goals (dsimp only; omega)
structure EOk (at_ : Int) (deep : Bool) (x : EV) : Prop where
  k1 : 1 ≤ x.kind
  k5 : x.kind ≤ 5
  len : x.load.length ≤ 4000
  sum : x.sum = crcL x.load
  base : x.kind = 5 → 12 ≤ x.base ∧ x.base < at_ ∧ deep = false
theorem opT_ok {t : List UInt8} {x : UInt8} {at_ : Nat} {deep : Bool} (h : (opT t x at_ deep).1 = 0) : EOk (at_ : Int) deep (opT t x at_ deep).2 := by
  by_cases h1 : x.toNat < 1 ∨ 5 < x.toNat
  · rw [opT_19 h1] at h; exact absurd h (by decide)
  · have hs := vaN_m t 1 0 4000
    by_cases h5 : x.toNat = 5
    · rw [opT_5 h5] at h ⊢
      by_cases g1 : (vaN t (vaN t 1 0 4000).2.1 (vaN t 1 0 4000).2.2 1048576).2.2 = 0
      · by_cases g2 : (vaN t (vaN t 1 0 4000).2.1 (vaN t 1 0 4000).2.2 1048576).1 = 0 ∨ (at_ : Int) - (vaN t (vaN t 1 0 4000).2.1 (vaN t 1 0 4000).2.2 1048576).1 < 12
        · rw [opM_21 g1 g2] at h; exact absurd h (by decide)
        · cases hd : deep with
          | true => rw [opM_20 g1 g2 hd] at h; exact absurd h (by decide)
          | false =>
            rw [hd] at h
            rw [opM_r (.inr ⟨g2, rfl⟩)] at h ⊢
            obtain ⟨_, e1, e2, e3, e4⟩ := opR_all h
            exact ⟨by omega, by omega, by omega, e4, fun _ => by rw [e2]; exact ⟨by omega, by omega, rfl⟩⟩
      · rw [opM_r (.inl g1)] at h
        exact absurd (opR_all h).1 g1
    · rw [opT_w h1 h5] at h ⊢
      obtain ⟨_, e1, e2, e3, e4⟩ := opR_all h
      exact ⟨by omega, by omega, by omega, e4, fun q => by omega⟩
theorem opV_ok {b : List UInt8} {at_ : Int} {deep : Bool} (h : (opV b at_ deep).1 = 0) : EOk at_ deep (opV b at_ deep).2 ∧ 12 ≤ at_ ∧ at_ < (b.length : Int) - 32 ∧ ¬ b.length < 44 := by
  by_cases h1 : b.length < 44
  · rw [opV_10 h1] at h; exact absurd h (by decide)
  · by_cases h2 : at_ < 12 ∨ (b.length : Int) - 32 ≤ at_
    · rw [opV_2 h1 h2] at h; exact absurd h (by decide)
    · have e : b[at_.toNat]? = some (b[at_.toNat]?.getD 0) := by
        rw [List.getElem?_eq_getElem (by omega)]; rfl
      rw [opV_t h1 h2 e] at h ⊢
      have h3 := opT_ok h
      rw [Int.toNat_of_nonneg (by omega)] at h3
      exact ⟨h3, by omega, by omega, h1⟩
def aplO (ld : List UInt8) (r : Int × List UInt8 × Int) : Int × List UInt8 × Int :=
  if r.2.2 ≠ 0 then (0, [], r.2.2)
  else if (Del.readV ld).2.2.2 ≠ 0 then (0, [], (Del.readV ld).2.2.2)
  else if (Del.aplR r.2.1 (Del.readV ld).1 (Del.readV ld).2.1 (Del.readV ld).2.2.1).2 ≠ 0 then (0, [], (Del.aplR r.2.1 (Del.readV ld).1 (Del.readV ld).2.1 (Del.readV ld).2.2.1).2)
  else (r.1, (Del.aplR r.2.1 (Del.readV ld).1 (Del.readV ld).2.1 (Del.readV ld).2.2.1).1, 0)
section
variable {ld : List UInt8} {r : Int × List UInt8 × Int} {e : Int}
theorem aplO_1 (h : r.2.2 = e) (he : e ≠ 0) : aplO ld r = (0, [], e) := by subst h; unfold aplO; rw [if_pos he]
theorem aplO_2 (h : r.2.2 = 0) (h2 : (Del.readV ld).2.2.2 ≠ 0) : aplO ld r = (0, [], (Del.readV ld).2.2.2) := by unfold aplO; rw [if_neg (fun q => q h), if_pos h2]
theorem aplO_3 (h : r.2.2 = 0) (h2 : (Del.readV ld).2.2.2 = 0) (h3 : (Del.aplR r.2.1 (Del.readV ld).1 (Del.readV ld).2.1 (Del.readV ld).2.2.1).2 ≠ 0) : aplO ld r = (0, [], (Del.aplR r.2.1 (Del.readV ld).1 (Del.readV ld).2.1 (Del.readV ld).2.2.1).2) := by unfold aplO; rw [if_neg (fun q => q h), if_neg (fun q => q h2), if_pos h3]
theorem aplO_4 (h : r.2.2 = 0) (h2 : (Del.readV ld).2.2.2 = 0) (h3 : (Del.aplR r.2.1 (Del.readV ld).1 (Del.readV ld).2.1 (Del.readV ld).2.2.1).2 = 0) : aplO ld r = (r.1, (Del.aplR r.2.1 (Del.readV ld).1 (Del.readV ld).2.1 (Del.readV ld).2.2.1).1, 0) := by unfold aplO; rw [if_neg (fun q => q h), if_neg (fun q => q h2), if_neg (fun q => q h3)]
end
def rdF (b : List UInt8) : Nat → Int → Int × List UInt8 × Int
  | 0, at_ => if (opV b at_ true).1 ≠ 0 then (0, [], (opV b at_ true).1) else ((opV b at_ true).2.kind, (opV b at_ true).2.load, 0)
  | f + 1, at_ => if (opV b at_ false).1 ≠ 0 then (0, [], (opV b at_ false).1) else if (opV b at_ false).2.kind = 5 then aplO (opV b at_ false).2.load (rdF b f (opV b at_ false).2.base) else ((opV b at_ false).2.kind, (opV b at_ false).2.load, 0)
def rest (b : List UInt8) (f : Nat) (x : EV) : Int × List UInt8 × Int := if x.kind = 5 then aplO x.load (rdF b f x.base) else (x.kind, x.load, 0)
theorem rdF_e {b : List UInt8} {f : Nat} {at_ : Int} {e : Int} (h : (opV b at_ (f == 0)).1 = e) (he : e ≠ 0) : rdF b f at_ = (0, [], e) := by
  subst h
  cases f with
  | zero => unfold rdF; exact if_pos he
  | succ f => unfold rdF; exact if_pos he
theorem rdF_ok {b : List UInt8} {f : Nat} {at_ : Int} (h : (opV b at_ (f == 0)).1 = 0) : rdF b f at_ = rest b (f - 1) (opV b at_ (f == 0)).2 := by
  cases f with
  | zero =>
    have hk := (opV_ok h).1
    have h5 : (opV b at_ (0 == 0)).2.kind ≠ 5 := fun q => by have := (hk.base q).2.2; cases this
    unfold rdF rest
    rw [if_neg (fun q => q h), if_neg h5]
    rfl
  | succ f =>
    have h2 : (f + 1 == 0) = false := rfl
    rw [h2] at h ⊢
    unfold rest
    conv => lhs; unfold rdF
    rw [if_neg (fun q => q h)]
    rfl
def readP (b : List UInt8) (at_ : Int) : Int × List UInt8 × Int := rdF b 8 at_
theorem foldr_snoc (ls : List (List UInt8)) (ld : List UInt8) (r : Int × List UInt8 × Int) : (ls ++ [ld]).foldr aplO r = ls.foldr aplO (aplO ld r) := by simp
theorem foldr_err (ls : List (List UInt8)) {e : Int} (he : e ≠ 0) : ls.foldr aplO (0, [], e) = (0, [], e) := by
  induction ls with
  | nil => rfl
  | cons x ls ih => rw [List.foldr_cons, ih]; exact aplO_1 rfl he
section
variable {d t : List UInt8} {a : Nat}
end
theorem tail_take {b : List UInt8} {n : Nat} : tailB b n = (b.take (b.length - 32)).drop n := by
  unfold tailB
  rw [List.drop_take]
end Go.Proofs.YtgaklngnfecdaaaGreat.Pak
namespace Go.Proofs.YtgaklngnfecdaaaGreat.Pak
open Go.RowKit Zk Zx
theorem xor_z {a b : UInt32} (h : a ^^^ b = 0) : a = b := by
  have h1 : (a ^^^ b) ^^^ b = 0 ^^^ b := by rw [h]
  rwa [UInt32.xor_assoc, UInt32.xor_self, UInt32.xor_zero, UInt32.zero_xor] at h1
theorem sh1_zero {d : UInt32} (h : sh1 d = 0) : d = 0 := by
  have hlt := d.toNat_lt
  have hs : (d >>> 1).toNat = d.toNat / 2 := by rw [UInt32.toNat_shiftRight]; exact Nat.shiftRight_eq_div_pow _ _
  have hm : (d &&& 1).toNat = d.toNat % 2 := by rw [UInt32.toNat_and]; exact Nat.and_one_is_mod _
  unfold sh1 at h
  rcases and1 d with q | q
  · rw [q, if_neg (by decide), UInt32.xor_zero] at h
    rw [h] at hs
    rw [q] at hm
    have e1 : (0 : UInt32).toNat = 0 := rfl
    exact UInt32.toNat_inj.1 (by omega)
  · rw [if_pos q] at h
    have h2 := xor_z h
    rw [h2] at hs
    have e1 : poly.toNat = 3988292384 := rfl
    omega
theorem shN_zero : ∀ (n : Nat) {d : UInt32}, shN n d = 0 → d = 0
  | 0, _, h => h
  | n + 1, d, h => sh1_zero (shN_zero n h)
theorem shN_inj {n : Nat} {a b : UInt32} (h : shN n a = shN n b) : a = b := by
  refine xor_z (shN_zero n ?_)
  rw [shN_xor, h, UInt32.xor_self]
theorem tk_inj {c d : UInt32} {x : UInt8} (h : tk c x = tk d x) : c = d := by
  have h1 : c ^^^ UInt32.ofNat x.toNat = d ^^^ UInt32.ofNat x.toNat := shN_inj h
  have h2 : (c ^^^ UInt32.ofNat x.toNat) ^^^ UInt32.ofNat x.toNat = (d ^^^ UInt32.ofNat x.toNat) ^^^ UInt32.ofNat x.toNat := by rw [h1]
  rwa [UInt32.xor_assoc, UInt32.xor_self, UInt32.xor_zero, UInt32.xor_assoc, UInt32.xor_self, UInt32.xor_zero] at h2
theorem tkL_inj {c d : UInt32} : ∀ {l : List UInt8}, tkL c l = tkL d l → c = d
  | [], h => h
  | x :: l, h => tk_inj (tkL_inj (l := l) h)
theorem of8_xor (x t : UInt8) : UInt32.ofNat (x ^^^ t).toNat = UInt32.ofNat x.toNat ^^^ UInt32.ofNat t.toNat := by
  apply UInt32.toNat_inj.1
  have h1 := x.toNat_lt
  have h2 := t.toNat_lt
  have h3 := (x ^^^ t).toNat_lt
  rw [UInt32.toNat_xor, UInt32.toNat_ofNat', UInt32.toNat_ofNat', UInt32.toNat_ofNat', Nat.mod_eq_of_lt (by omega), Nat.mod_eq_of_lt (by omega), Nat.mod_eq_of_lt (by omega), UInt8.toNat_xor]
theorem tk_xor (c d : UInt32) (x t : UInt8) : tk (c ^^^ d) (x ^^^ t) = tk c x ^^^ shN 8 (d ^^^ UInt32.ofNat t.toNat) := by
  unfold tk
  rw [of8_xor, xor_swap, shN_xor]
theorem sh_up (e : UInt32) (h : e.toNat < 16777216) : (e <<< 8).toNat = e.toNat * 256 ∧ shN 8 (e <<< 8) = e := by
  have h1 : (e <<< 8).toNat = e.toNat * 256 := by
    rw [UInt32.toNat_shiftLeft]
    show e.toNat <<< 8 % 4294967296 = _
    rw [Nat.shiftLeft_eq]
    show e.toNat * 256 % 4294967296 = _
    omega
  refine ⟨h1, UInt32.toNat_inj.1 ?_⟩
  rw [shN_even 8 _ (by rw [h1]; exact Nat.mul_mod_left _ _), h1]
  exact Nat.mul_div_cancel _ (by omega)
theorem xor_eq_left {a b c : UInt32} (h : a ^^^ b = c) : a = b ^^^ c := by
  rw [← h, UInt32.xor_comm a b, ← UInt32.xor_assoc, UInt32.xor_self, UInt32.zero_xor]
theorem t8_lt (t : UInt8) : (UInt32.ofNat t.toNat).toNat = t.toNat := by
  have := t.toNat_lt
  rw [UInt32.toNat_ofNat', Nat.mod_eq_of_lt (by omega)]
theorem xor_bound {a b : UInt32} {k : Nat} (ha : a.toNat < 2 ^ k) (hb : b.toNat < 2 ^ k) : (a ^^^ b).toNat < 2 ^ k := by
  rw [UInt32.toNat_xor]
  exact Nat.xor_lt_two_pow ha hb
theorem low_up {t : UInt8} {e : UInt32} (he : e.toNat < 16777216) (h : UInt32.ofNat t.toNat = e <<< 8) : t = 0 ∧ e = 0 := by
  have h1 := congrArg UInt32.toNat h
  rw [t8_lt, (sh_up e he).1] at h1
  have := t.toNat_lt
  exact ⟨UInt8.toNat_inj.1 (by show t.toNat = 0; omega), UInt32.toNat_inj.1 (by show e.toNat = 0; omega)⟩
theorem sh_back {d e : UInt32} (he : e.toNat < 16777216) (h : shN 8 d = e) : d = e <<< 8 := shN_inj (h.trans (sh_up e he).2.symm)
theorem four {c : UInt32} {x0 x1 x2 x3 t0 t1 t2 t3 : UInt8} (h : tkL c [x0 ^^^ t0, x1 ^^^ t1, x2 ^^^ t2, x3 ^^^ t3] = tkL c [x0, x1, x2, x3]) : t0 = 0 ∧ t1 = 0 ∧ t2 = 0 ∧ t3 = 0 := by
  have b0 := t0.toNat_lt
  have b1 := t1.toNat_lt
  have b2 := t2.toNat_lt
  have b3 := t3.toNat_lt
  have e0 : c = c ^^^ 0 := by rw [UInt32.xor_zero]
  have h1 : tkL c [x0 ^^^ t0, x1 ^^^ t1, x2 ^^^ t2, x3 ^^^ t3] = tk (tk (tk (tk (c ^^^ 0) (x0 ^^^ t0)) (x1 ^^^ t1)) (x2 ^^^ t2)) (x3 ^^^ t3) := by rw [← e0]; rfl
  rw [h1, tk_xor, tk_xor, tk_xor, tk_xor, show tkL c [x0, x1, x2, x3] = tk (tk (tk (tk c x0) x1) x2) x3 from rfl] at h
  have h2 := xor_eq_left h
  rw [UInt32.xor_comm] at h2
  have h3 : shN 8 (shN 8 (shN 8 (shN 8 (0 ^^^ UInt32.ofNat t0.toNat) ^^^ UInt32.ofNat t1.toNat) ^^^ UInt32.ofNat t2.toNat) ^^^ UInt32.ofNat t3.toNat) = 0 := by
    have h4 : tk (tk (tk (tk c x0) x1) x2) x3 ^^^ shN 8 (shN 8 (shN 8 (shN 8 (0 ^^^ UInt32.ofNat t0.toNat) ^^^ UInt32.ofNat t1.toNat) ^^^ UInt32.ofNat t2.toNat) ^^^ UInt32.ofNat t3.toNat) = tk (tk (tk (tk c x0) x1) x2) x3 := h
    have h5 := xor_eq_left h4
    have h6 : ∀ a b : UInt32, a = b ^^^ a → b = 0 := fun a b q => by
      have h7 : a ^^^ a = (b ^^^ a) ^^^ a := by rw [← q]
      rw [UInt32.xor_self, UInt32.xor_assoc, UInt32.xor_self, UInt32.xor_zero] at h7
      exact h7.symm
    exact h6 _ _ h5
  have h4 := xor_z (shN_zero 8 h3)
  have g3 : (UInt32.ofNat t3.toNat).toNat < 16777216 := by rw [t8_lt]; omega
  have h5 := sh_back g3 h4
  have h6 : shN 8 (shN 8 (0 ^^^ UInt32.ofNat t0.toNat) ^^^ UInt32.ofNat t1.toNat) = UInt32.ofNat t2.toNat ^^^ (UInt32.ofNat t3.toNat <<< 8) := xor_eq_left h5
  have g2 : (UInt32.ofNat t2.toNat ^^^ (UInt32.ofNat t3.toNat <<< 8)).toNat < 2 ^ 16 := xor_bound (by rw [t8_lt]; omega) (by rw [(sh_up _ g3).1, t8_lt]; omega)
  have h7 := sh_back (by omega) h6
  have h8 : shN 8 (0 ^^^ UInt32.ofNat t0.toNat) = UInt32.ofNat t1.toNat ^^^ ((UInt32.ofNat t2.toNat ^^^ (UInt32.ofNat t3.toNat <<< 8)) <<< 8) := xor_eq_left h7
  have g1 : (UInt32.ofNat t1.toNat ^^^ ((UInt32.ofNat t2.toNat ^^^ (UInt32.ofNat t3.toNat <<< 8)) <<< 8)).toNat < 2 ^ 24 := xor_bound (by rw [t8_lt]; omega) (by rw [(sh_up _ (by omega)).1]; omega)
  have h9 := sh_back (by omega) h8
  rw [UInt32.zero_xor] at h9
  obtain ⟨z0, z1⟩ := low_up (by omega) h9
  obtain ⟨z1, z2⟩ := low_up (by omega) (xor_z z1)
  obtain ⟨z2, z3⟩ := low_up g3 (xor_z z2)
  refine ⟨z0, z1, z2, UInt8.toNat_inj.1 ?_⟩
  have := congrArg UInt32.toNat z3
  rw [t8_lt] at this
  exact this
theorem tkL_app (c : UInt32) (l r : List UInt8) : tkL c (l ++ r) = tkL (tkL c l) r := List.foldl_append
theorem crc_turn {x0 x1 x2 x3 t0 t1 t2 t3 : UInt8} {r : List UInt8} (h : crcL ((x0 ^^^ t0) :: (x1 ^^^ t1) :: (x2 ^^^ t2) :: (x3 ^^^ t3) :: r) = crcL (x0 :: x1 :: x2 :: x3 :: r)) : t0 = 0 ∧ t1 = 0 ∧ t2 = 0 ∧ t3 = 0 := by
  have e : ∀ a b c d : UInt8, crcL (a :: b :: c :: d :: r) = ~~~ tkL (tkL (~~~ 0) [a, b, c, d]) r := fun a b c d => by
    unfold crcL crcM
    rw [show a :: b :: c :: d :: r = [a, b, c, d] ++ r from rfl, tkL_app]
  rw [e, e] at h
  have h1 := congrArg (fun z : UInt32 => ~~~ z) h
  simp only [UInt32.not_not] at h1
  exact four (tkL_inj h1)
end Go.Proofs.YtgaklngnfecdaaaGreat.Pak
namespace Go.Proofs.YtgaklngnfecdaaaGreat.Pak
open Go.RowKit Zk Zx
open Sha (N)
open Go.Proofs.YtgaklngnfecdaaaGreat.Obj (objE objB nameI nameI_len)
open Oct (vaN rwL rwP rwE rnL rnP rnE be tkP tkE numF vr tl length_tl)
theorem be_tl {v : Nat} (h : v < 4294967296) : be (tl v 4) = v := by
  simp only [tl, be, List.foldl, UInt8.toNat_ofNat']
  omega
theorem rw_at {t r s : List UInt8} {p k : Nat} (h : t.drop p = r ++ s) (hk : r.length = k) : rwL t p 0 k = r ∧ rwP t p 0 k = p + k ∧ rwE t p 0 k = 0 := by
  have hl : k ≤ t.length - p := by
    have := congrArg List.length h
    rw [List.length_drop, List.length_append] at this
    omega
  unfold rwL rwP rwE Oct.tkL tkP tkE
  rw [if_pos rfl, if_pos rfl, if_pos rfl, if_pos hl, if_pos hl, if_pos hl, h]
  exact ⟨by rw [← hk]; simp, rfl, rfl⟩
theorem rn_at {t r s : List UInt8} {p k : Nat} (h : t.drop p = r ++ s) (hk : r.length = k) : rnL t p 0 (k : Int) = r ∧ rnP t p 0 (k : Int) = p + k ∧ rnE t p 0 (k : Int) = 0 := by
  obtain ⟨h1, h2, h3⟩ := Oct.rn_nat t p 0 k
  rw [h1, h2, h3]
  exact rw_at h hk
theorem va_at {t r : List UInt8} {p v m : Nat} (h : t.drop p = vr v ++ r) (hm : v ≤ m) (h64 : v ≤ 18446744073709551615) : vaN t p 0 m = (v, p + (vr v).length, 0) := by
  unfold vaN
  rw [if_neg (by omega), h, Oct.numF_of_vr r v h64, if_neg (by show ¬ (0 : Nat) ≠ 0; omega), if_neg (by show ¬ m < v; omega)]
theorem drop_add {t r s : List UInt8} {p : Nat} (h : t.drop p = r ++ s) : t.drop (p + r.length) = s := by
  rw [← List.drop_drop, h, List.drop_left]
theorem opR_at {t load post : List UInt8} {at_ : Nat} {kind base : Int} {p : Nat} (h : t.drop p = tl (crcL load).toNat 4 ++ (load ++ post)) : opR t at_ kind base load.length p 0 = (0, ⟨kind, base, at_ + (p + 4 + load.length), crcL load, load⟩) := by
  obtain ⟨e1, e2, e3⟩ := rw_at h (length_tl _ 4)
  have h2 := drop_add h
  rw [length_tl] at h2
  obtain ⟨f1, f2, f3⟩ := rn_at h2 rfl
  rw [opR_ok (by rw [e2, e3, f3]) (by rw [e1, e2, e3, f1, be_tl (crcL load).toNat_lt]; omega), e2, e3, f1, f2]
theorem ent_whole {x : UInt8} {load post : List UInt8} {at_ : Nat} {deep : Bool} (h1 : 1 ≤ x.toNat) (h4 : x.toNat ≤ 4) (hl : load.length ≤ 4000) :
    opT (entB x [] load ++ post) x at_ deep = (0, ⟨(x.toNat : Int), 0, at_ + (entB x [] load).length, crcL load, load⟩) := by
  have d1 : (entB x [] load ++ post).drop 1 = vr load.length ++ (tl (crcL load).toNat 4 ++ (load ++ post)) := by simp [entB]
  have v1 := va_at d1 hl (by omega)
  have d2 := drop_add d1
  rw [opT_w (by omega) (by omega), v1, opR_at d2]
  have : 1 + (vr load.length).length + 4 + load.length = (entB x [] load).length := by simp [entB, length_tl]; omega
  rw [this]
theorem ent_made {back : Nat} {load post : List UInt8} {at_ : Nat} (hl : load.length ≤ 4000) (hb : 1 ≤ back) (hb2 : back + 12 ≤ at_) (hm : at_ ≤ 1048576) :
    opT (entB 5 (vr back) load ++ post) 5 at_ false = (0, ⟨5, (at_ : Int) - back, at_ + (entB 5 (vr back) load).length, crcL load, load⟩) := by
  have d1 : (entB 5 (vr back) load ++ post).drop 1 = vr load.length ++ (vr back ++ (tl (crcL load).toNat 4 ++ (load ++ post))) := by simp [entB]
  have v1 := va_at d1 hl (by omega)
  have d2 := drop_add d1
  have v2 := va_at (m := 1048576) d2 (by omega) (by omega)
  have d3 := drop_add d2
  rw [opT_5 rfl, v1, opM_r (.inr ⟨by dsimp only; rw [v2]; dsimp only; omega, rfl⟩)]
  dsimp only
  rw [v2, opR_at d3]
  have : 1 + (vr load.length).length + (vr back).length + 4 + load.length = (entB 5 (vr back) load).length := by simp [entB, length_tl]; omega
  rw [this]
def nx (os : List Ob) (bs : List UInt8) (k : Nat) : Nat := os[k + 1]?.elim bs.length Ob.at_
theorem nx_more {os : List Ob} {bs ex : List UInt8} {q : Ob} {k : Nat} (hk : k < os.length) (hq : q.at_ = bs.length) : nx (os ++ [q]) (bs ++ ex) k = nx os bs k := by
  unfold nx
  rcases Nat.lt_or_ge (k + 1) os.length with g | g
  · rw [List.getElem?_append_left g, List.getElem?_eq_getElem g]; rfl
  · have e : os.length = k + 1 := by omega
    rw [← e, List.getElem?_concat_length, List.getElem?_eq_none (by omega)]
    exact hq
structure Laid1 (os : List Ob) (bs : List UInt8) (o : Ob) (k : Nat) : Prop where
  at12 : 12 ≤ o.at_
  lt : o.at_ < bs.length
  dep : o.dep ≤ 8
  ent : (∃ x post, bs.drop o.at_ = entB x [] o.l ++ post ∧ (x.toNat : Int) = o.kind ∧ o.dep = 0 ∧ o.sum = crcL o.l ∧ o.at_ + (entB x [] o.l).length = nx os bs k) ∨
    (∃ j p post, j < k ∧ os[j]? = some p ∧ p.at_ < o.at_ ∧ p.kind = o.kind ∧ o.dep = p.dep + 1 ∧ o.sum = crcL (scB p.l o.l) ∧ (scB p.l o.l).length < o.l.length ∧ bs.drop o.at_ = entB 5 (vr (o.at_ - p.at_)) (scB p.l o.l) ++ post ∧ o.at_ + (entB 5 (vr (o.at_ - p.at_)) (scB p.l o.l)).length = nx os bs k)
structure LaidAll (s : Pk) : Prop where
  each : ∀ k o, s.os[k]? = some o → Laid1 s.os s.bs o k
  kinds : ∀ o ∈ s.os, 1 ≤ o.kind ∧ o.kind ≤ 4
  short : ∀ o ∈ s.os, o.l.length ≤ 300
theorem Laid1.more {os : List Ob} {bs ex : List UInt8} {o q : Ob} {k : Nat} (h : Laid1 os bs o k) (hk : k < os.length) (hq : q.at_ = bs.length) : Laid1 (os ++ [q]) (bs ++ ex) o k := by
  have hlt := h.lt
  refine ⟨h.at12, by rw [List.length_append]; omega, h.dep, ?_⟩
  rcases h.ent with ⟨x, post, e, u1, u2, u3, u4⟩ | ⟨j, p, post, hj, hp, r1, r2, r3, r4, r5, e, u4⟩
  · exact .inl ⟨x, post ++ ex, by rw [List.drop_append_of_le_length (by omega), e, List.append_assoc], u1, u2, u3, by rw [nx_more hk hq]; exact u4⟩
  · exact .inr ⟨j, p, post ++ ex, hj, by rw [List.getElem?_append_left (by omega)]; exact hp, r1, r2, r3, r4, r5, by rw [List.drop_append_of_le_length (by omega), e, List.append_assoc], by rw [nx_more hk hq]; exact u4⟩
theorem addV_laid {chain : Int} (hc : chain ≤ 8) {s : Pk} {v : IV} (h : LaidAll s) (hk : 1 ≤ v.1 ∧ v.1 ≤ 4) (hl : v.2.length ≤ 300) (h12 : 12 ≤ s.bs.length) (hbs : s.bs.length ≤ 20000) : LaidAll (addV chain s v) := by
  obtain ⟨ht, htl⟩ := told_ok s.os chain v.1 v.2
  have old : ∀ (q : Ob) (ex : List UInt8) (k : Nat) (o : Ob), s.os[k]? = some o → q.at_ = s.bs.length → Laid1 (s.os ++ [q]) (s.bs ++ ex) o k := fun q ex k o ho hq => (h.each k o ho).more (List.getElem?_eq_some_iff.1 ho).1 hq
  have fin : ∀ (q : Ob) (ex : List UInt8), q.kind = v.1 → q.l = v.2 → q.at_ = s.bs.length → Laid1 (s.os ++ [q]) (s.bs ++ ex) q s.os.length → LaidAll ⟨s.bs ++ ex, s.os ++ [q]⟩ := fun q ex e1 e2 e3 hq => by
    refine ⟨fun k o ho => ?_, fun o ho => ?_, fun o ho => ?_⟩
    · rcases Nat.lt_or_ge k s.os.length with g | g
      · rw [List.getElem?_append_left g] at ho
        exact old q ex k o ho e3
      · have hk2 := (List.getElem?_eq_some_iff.1 ho).1
        simp at hk2
        obtain rfl : k = s.os.length := by omega
        rw [List.getElem?_concat_length] at ho
        cases ho
        exact hq
    · rcases List.mem_append.1 ho with ho | ho
      · exact h.kinds o ho
      · obtain rfl := List.mem_singleton.1 ho
        rw [e1]; exact hk
    · rcases List.mem_append.1 ho with ho | ho
      · exact h.short o ho
      · obtain rfl := List.mem_singleton.1 ho
        rw [e2]; exact hl
  unfold addV layO
  rcases ht with ⟨r1, r2⟩ | ⟨j, o, r1, ho, g1, g2, g3, g4⟩
  · rw [if_pos (by omega)]
    refine fin _ _ rfl rfl rfl ⟨h12, by simp [entB] <;> omega, by show (0 : Nat) ≤ 8; omega, .inl ⟨UInt8.ofNat v.1.toNat, [], ?_, ?_, rfl, by rw [r2], by rw [r2]; unfold nx; rw [List.getElem?_eq_none (by simp)]; show s.bs.length + _ = (s.bs ++ _).length; rw [List.length_append]⟩⟩
    · show (s.bs ++ entB _ [] _).drop s.bs.length = _
      rw [List.drop_left, r2, List.append_nil]
    · show ((UInt8.ofNat v.1.toNat).toNat : Int) = v.1
      rw [UInt8.toNat_ofNat']
      omega
  · rw [if_neg (by omega)]
    have hj : (toldV s.os chain v.1 v.2).1.toNat = j := by omega
    have ea : ofAt s.os (toldV s.os chain v.1 v.2).1 = o.at_ := by unfold ofAt; rw [hj, ho]; rfl
    have ed : ofDep s.os (toldV s.os chain v.1 v.2).1 = o.dep := by unfold ofDep; rw [hj, ho]; rfl
    have hL := h.each j o ho
    have hjl := (List.getElem?_eq_some_iff.1 ho).1
    have hLt := hL.lt
    rw [ea, ed]
    refine fin _ _ rfl rfl rfl ⟨h12, by simp [entB] <;> omega, by show o.dep + 1 ≤ 8; omega, .inr ⟨j, o, [], hjl, by rw [List.getElem?_append_left hjl]; exact ho, hLt, g1, rfl, by rw [g3], by rw [← g3]; exact g4, ?_, ?_⟩⟩
    · show (s.bs ++ entB 5 _ _).drop s.bs.length = _
      rw [List.drop_left, g3, List.append_nil]
    · rw [g3]; unfold nx; rw [List.getElem?_eq_none (by simp)]; show s.bs.length + _ = (s.bs ++ _).length; rw [List.length_append]
theorem pack_laid {chain : Int} (hc : chain ≤ 8) {n : Nat} {l : List IV} (hs : ∀ x ∈ l, x.2.length ≤ 300) (hk : ∀ x ∈ l, 1 ≤ x.1 ∧ x.1 ≤ 4) : ∀ k, k ≤ l.length → k ≤ 24 → LaidAll (packN chain n (l.take k))
  | 0, _, _ => ⟨fun k o ho => by simp [packN] at ho, fun o ho => by simp [packN] at ho, fun o ho => by simp [packN] at ho⟩
  | k + 1, hkl, h24 => by
    obtain ⟨x, hx⟩ : ∃ x, l[k]? = some x := ⟨_, List.getElem?_eq_getElem (by omega)⟩
    obtain ⟨h1, h2, h3⟩ := pack_inv (chain := chain) (n := n) hs k (by omega) (by omega)
    rw [packN_succ hx]
    exact addV_laid hc (pack_laid hc hs hk k (by omega) (by omega)) (hk x (List.mem_of_getElem? hx)) (hs x (List.mem_of_getElem? hx)) h2 (by omega)
theorem tail_pack {bs ex : List UInt8} {n : Nat} (he : ex.length = 32) : tailB (bs ++ ex) n = bs.drop n := by
  rw [tail_take, show (bs ++ ex).length - 32 = bs.length by rw [List.length_append]; omega, List.take_left]
theorem entB_hd (x : UInt8) (bk load post : List UInt8) : (entB x bk load ++ post)[0]? = some x := by simp [entB]
theorem open_laid {s : Pk} {ex : List UInt8} (he : ex.length = 32) (h12 : 12 ≤ s.bs.length) (hbs : s.bs.length ≤ 20000) (h : LaidAll s) {k : Nat} {o : Ob} (ho : s.os[k]? = some o) :
    (∃ post, s.bs.drop o.at_ = entB (UInt8.ofNat o.kind.toNat) [] o.l ++ post ∧ o.dep = 0 ∧ o.sum = crcL o.l ∧ ∀ deep, opV (s.bs ++ ex) (o.at_ : Int) deep = (0, ⟨o.kind, 0, nx s.os s.bs k, o.sum, o.l⟩)) ∨
    (∃ j p post, j < k ∧ s.os[j]? = some p ∧ p.kind = o.kind ∧ o.dep = p.dep + 1 ∧ s.bs.drop o.at_ = entB 5 (vr (o.at_ - p.at_)) (scB p.l o.l) ++ post ∧ opV (s.bs ++ ex) (o.at_ : Int) false = (0, ⟨5, (p.at_ : Int), nx s.os s.bs k, o.sum, scB p.l o.l⟩)) := by
  have hL := h.each k o ho
  have h1 := hL.at12
  have h2 := hL.lt
  have hk := h.kinds o (List.mem_of_getElem? ho)
  have hs := h.short o (List.mem_of_getElem? ho)
  have hlen : (s.bs ++ ex).length = s.bs.length + 32 := by rw [List.length_append, he]
  have hx0 : ∀ {x : UInt8} {bk load post : List UInt8}, s.bs.drop o.at_ = entB x bk load ++ post → (s.bs ++ ex)[((o.at_ : Nat) : Int).toNat]? = some x := fun {x bk load post} e => by
    have h4 := entB_hd x bk load post
    rw [← e, List.getElem?_drop, Nat.add_zero] at h4
    rw [Int.toNat_natCast, List.getElem?_append_left h2, h4]
  rcases hL.ent with ⟨x, post, e, r1, r2, r3, u4⟩ | ⟨j, p, post, hj, hp, r1, r2, r3, r4, r5, e, u4⟩
  · have hxe : x = UInt8.ofNat o.kind.toNat := by
      apply UInt8.toNat_inj.1
      rw [UInt8.toNat_ofNat']
      omega
    refine .inl ⟨post, by rw [← hxe]; exact e, r2, r3, fun deep => ?_⟩
    rw [opV_t (by omega) (by omega) (hx0 e), Int.toNat_natCast, tail_pack he, e, ent_whole (by omega) (by omega) (by omega), r1, r3, u4]
  · have hpL := (h.each j p hp).at12
    refine .inr ⟨j, p, post, hj, hp, r2, r3, e, ?_⟩
    rw [opV_t (by omega) (by omega) (hx0 e), Int.toNat_natCast, tail_pack he, e, ent_made (by omega) (by omega) (by omega) (by omega), r4, u4]
    have : (o.at_ : Int) - ((o.at_ - p.at_ : Nat) : Int) = (p.at_ : Int) := by omega
    rw [this]
theorem aplO_sc {a x : List UInt8} {k : Int} (ha : a.length ≤ 300) (hx : x.length ≤ 300) : aplO (scB a x) (k, a, 0) = (k, x, 0) := by
  have h1 := Del.put_read (Del.mkV_err (a := a) (t := x) (by omega) (by omega))
  have h2 := Del.make_apl (a := a) (t := x) (by omega) (by omega)
  have h3 : (Del.readV (scB a x)).2.2.2 = 0 := by unfold scB; rw [h1]
  have h4 : Del.aplR a (Del.readV (scB a x)).1 (Del.readV (scB a x)).2.1 (Del.readV (scB a x)).2.2.1 = (x, 0) := by unfold scB; rw [h1]; exact h2
  rw [aplO_4 rfl h3 (by dsimp only; rw [h4])]
  dsimp only
  rw [h4]
theorem read_laid {s : Pk} {ex : List UInt8} (he : ex.length = 32) (h12 : 12 ≤ s.bs.length) (hbs : s.bs.length ≤ 20000) (h : LaidAll s) : ∀ (k : Nat) (o : Ob), s.os[k]? = some o → ∀ f, o.dep ≤ f → rdF (s.bs ++ ex) f (o.at_ : Int) = (o.kind, o.l, 0) := by
  intro k
  induction k using Nat.strongRecOn with
  | _ k ih =>
    intro o ho f hf
    have hk := h.kinds o (List.mem_of_getElem? ho)
    have hs := h.short o (List.mem_of_getElem? ho)
    rcases open_laid he h12 hbs h ho with ⟨post, _, _, _, hop⟩ | ⟨j, p, post, hj, hp, g1, g2, _, hop⟩
    · rw [rdF_ok (by rw [hop]), hop]
      unfold rest
      exact if_neg (by show ¬ o.kind = 5; omega)
    · obtain ⟨f, rfl⟩ : ∃ f', f = f' + 1 := ⟨f - 1, by omega⟩
      have hb : (f + 1 == 0) = false := rfl
      rw [rdF_ok (by rw [hb, hop]), hb, hop]
      unfold rest
      rw [if_pos rfl]
      show aplO (scB p.l o.l) (rdF (s.bs ++ ex) f (p.at_ : Int)) = _
      rw [ih j hj p hp f (by omega), g1, aplO_sc (h.short p (List.mem_of_getElem? hp)) hs]
end Go.Proofs.YtgaklngnfecdaaaGreat.Pak
namespace Go.Proofs.YtgaklngnfecdaaaGreat.Pak
open Go.RowKit Zk Zx
open Sha (N)
open Go.Proofs.YtgaklngnfecdaaaGreat.Obj (objE objB nameI nameI_len)
open Oct (vaN rwL rwP rwE rnL rnP rnE be tkP tkE numF vr tl length_tl)
def scanF (b : List UInt8) : Nat → Nat → Int × List Ob × Nat
  | 0, at_ => (0, [], at_)
  | n + 1, at_ => if (opV b at_ false).1 ≠ 0 then ((opV b at_ false).1, [], 0)
    else if (rest b 7 (opV b at_ false).2).2.2 ≠ 0 then ((rest b 7 (opV b at_ false).2).2.2, [], 0)
    else if objE (rest b 7 (opV b at_ false).2).1 (rest b 7 (opV b at_ false).2).2.1 ≠ 0 then (objE (rest b 7 (opV b at_ false).2).1 (rest b 7 (opV b at_ false).2).2.1, [], 0)
    else ((scanF b n (opV b at_ false).2.fin).1, ⟨(rest b 7 (opV b at_ false).2).1, (rest b 7 (opV b at_ false).2).2.1, 0, at_, (opV b at_ false).2.sum⟩ :: (scanF b n (opV b at_ false).2.fin).2.1, (scanF b n (opV b at_ false).2.fin).2.2)
def glue (os : List Ob) (q : Int × List Ob × Nat) : Int × List Ob × Nat := (q.1, os ++ q.2.1, q.2.2)
section
variable {b : List UInt8} {n at_ : Nat}
end
def SCI (b : List UInt8) (n k : Nat) (os : List Ob) (at_ : Nat) : Prop := scanF b n 12 = glue os (scanF b (n - k) at_)
theorem SCI.start (b : List UInt8) (n : Nat) : SCI b n 0 [] 12 := rfl
theorem SCI.err {b : List UInt8} {n k at_ : Nat} {os : List Ob} (h : SCI b n k os at_) {e : Int} (h2 : (scanF b (n - k) at_).1 = e) : (scanF b n 12).1 = e := by
  unfold SCI at h; rw [h]; exact h2
theorem SCI.next {b : List UInt8} {n k at_ at2 : Nat} {os : List Ob} {o : Ob} (h : SCI b n k os at_) (hk : k < n) (h2 : scanF b (n - k - 1 + 1) at_ = glue [o] (scanF b (n - k - 1) at2)) : SCI b n (k + 1) (os ++ [o]) at2 := by
  unfold SCI at h ⊢
  rw [h, show n - k = n - k - 1 + 1 by omega, h2, show n - (k + 1) = n - k - 1 by omega]
  unfold glue
  simp
theorem SCI.done {b : List UInt8} {n at_ : Nat} {os : List Ob} (h : SCI b n n os at_) : scanF b n 12 = (0, os, at_) := by
  unfold SCI at h
  rw [h, Nat.sub_self]
  unfold scanF glue
  simp
theorem first_at {chain : Int} {n : Nat} {l : List IV} : (packN chain n l).os[0]?.elim (packN chain n l).bs.length Ob.at_ = 12 := by
  have key : ∀ (l : List IV) (s : Pk), s.os[0]?.elim s.bs.length Ob.at_ = 12 → (l.foldl (addV chain) s).os[0]?.elim (l.foldl (addV chain) s).bs.length Ob.at_ = 12 := by
    intro l
    induction l with
    | nil => exact fun s h => h
    | cons v l ih =>
      intro s h
      refine ih _ ?_
      unfold addV layO
      cases ho : s.os with
      | nil =>
        rw [ho] at h
        split <;> exact h
      | cons o os =>
        rw [ho] at h
        split <;> exact h
  exact key l _ (by show (frontB n).length = 12; exact frontB_len n)
theorem kind_of {k : Int} {b : List UInt8} (h : objE k b = 0) : 1 ≤ k ∧ k ≤ 4 := Classical.byContradiction fun q => by
  unfold objE at h
  rw [if_pos q] at h
  exact absurd h (by decide)
structure Written (chain : Int) (l : List IV) : Prop where
  inv : LaidAll (packV chain l)
  cnt : (packV chain l).os.length = l.length
  lo : 12 ≤ (packV chain l).bs.length
  hi : (packV chain l).bs.length ≤ 10000
  items : (packV chain l).os.map (fun o => (o.kind, o.l)) = l
  good : ∀ o ∈ (packV chain l).os, objE o.kind o.l = 0
theorem written {chain : Int} (hc : chain ≤ 8) {l : List IV} (h24 : l.length ≤ 24) (hs : ∀ x ∈ l, x.2.length ≤ 300) (hn : ∀ x ∈ l, objE x.1 x.2 = 0) : Written chain l := by
  have h1 := pack_inv (chain := chain) (n := l.length) hs l.length (Nat.le_refl _) h24
  have h2 := pack_os (chain := chain) (n := l.length) (l := l) l.length (Nat.le_refl _)
  have h3 := pack_laid hc (n := l.length) hs (fun x hx => kind_of (hn x hx)) l.length (Nat.le_refl _) h24
  rw [List.take_length] at h1 h2 h3
  refine ⟨h3, h1.1, h1.2.1, by have := h1.2.2; unfold packV; omega, h2, fun o ho => hn (o.kind, o.l) ?_⟩
  have : (o.kind, o.l) ∈ (packN chain l.length l).os.map (fun o => (o.kind, o.l)) := List.mem_map.2 ⟨o, ho, rfl⟩
  rwa [h2] at this
theorem Written.item {chain : Int} {l : List IV} (h : Written chain l) {k : Nat} {o : Ob} (ho : (packV chain l).os[k]? = some o) : l[k]? = some (o.kind, o.l) := by
  have h1 : ((packV chain l).os.map (fun o => (o.kind, o.l)))[k]? = some (o.kind, o.l) := by rw [List.getElem?_map, ho]; rfl
  rwa [h.items] at h1
theorem Written.read {chain : Int} {l : List IV} (h : Written chain l) {k : Nat} {o : Ob} (ho : (packV chain l).os[k]? = some o) : readP (packB chain l) (o.at_ : Int) = (o.kind, o.l, 0) :=
  read_laid (Sha.length_ofL _) h.lo (by have := h.hi; omega) h.inv k o ho 8 (h.inv.each k o ho).dep
theorem cand_zero {os : List Ob} {kind : Int} (j seen : Nat) : candF os kind 0 j seen = [] := by
  cases hc : candF os kind 0 j seen with
  | nil => rfl
  | cons k r =>
    obtain ⟨_, o, _, _, h⟩ := cand_lt (os := os) (kind := kind) (chain := 0) j seen k (by rw [hc]; simp)
    omega
theorem told_zero (os : List Ob) (kind : Int) (x : List UInt8) : toldV os 0 kind x = (-1, x) := by
  unfold toldV
  rw [cand_zero]
  rfl
theorem dep_zero {n : Nat} {l : List IV} : ∀ o ∈ (packN 0 n l).os, o.dep = 0 := by
  have key : ∀ (l : List IV) (s : Pk), (∀ o ∈ s.os, o.dep = 0) → ∀ o ∈ (l.foldl (addV 0) s).os, o.dep = 0 := by
    intro l
    induction l with
    | nil => exact fun s h => h
    | cons v l ih =>
      intro s h
      refine ih _ ?_
      unfold addV
      rw [told_zero]
      unfold layO
      rw [if_pos (show ((-1, v.2) : Int × List UInt8).1 < 0 from (by decide : (-1 : Int) < 0))]
      intro o ho
      rcases List.mem_append.1 ho with ho | ho
      · exact h o ho
      · obtain rfl := List.mem_singleton.1 ho
        rfl
  exact key l _ (fun o ho => by cases ho)
def byT (t : Nat) (j : Nat) : UInt8 := UInt8.ofNat (t / 256 ^ j % 256)
def tnL (b : List UInt8) (p t : Nat) : Nat → List UInt8
  | 0 => b
  | j + 1 => (tnL b p t j).set (p + j) (((tnL b p t j)[p + j]?.getD 0) ^^^ byT t j)
theorem tnL_len (b : List UInt8) (p t : Nat) : ∀ j, (tnL b p t j).length = b.length
  | 0 => rfl
  | j + 1 => by unfold tnL; rw [List.length_set, tnL_len b p t j]
theorem tnL_four {pre r : List UInt8} {x0 x1 x2 x3 : UInt8} (t : Nat) : tnL (pre ++ (x0 :: x1 :: x2 :: x3 :: r)) pre.length t 4 = pre ++ ((x0 ^^^ byT t 0) :: (x1 ^^^ byT t 1) :: (x2 ^^^ byT t 2) :: (x3 ^^^ byT t 3) :: r) := by
  have g : ∀ (j : Nat) (m : List UInt8), (pre ++ m)[pre.length + j]? = m[j]? := fun j m => by rw [List.getElem?_append_right (by omega)]; congr 1; omega
  have s : ∀ (j : Nat) (m : List UInt8) (v : UInt8), (pre ++ m).set (pre.length + j) v = pre ++ m.set j v := fun j m v => by rw [List.set_append_right _ _ (by omega)]; congr 2; omega
  simp only [tnL, g, s, List.set_cons_zero, List.set_cons_succ, List.getElem?_cons_zero, List.getElem?_cons_succ, Option.getD_some]
theorem byT_all {t : Nat} (h : t < 4294967296) (h0 : byT t 0 = 0) (h1 : byT t 1 = 0) (h2 : byT t 2 = 0) (h3 : byT t 3 = 0) : t = 0 := by
  have e : ∀ j, byT t j = 0 → t / 256 ^ j % 256 = 0 := fun j q => by
    have := congrArg UInt8.toNat q
    unfold byT at this
    rw [UInt8.toNat_ofNat'] at this
    have z : (0 : UInt8).toNat = 0 := rfl
    omega
  have q0 := e 0 h0
  have q1 := e 1 h1
  have q2 := e 2 h2
  have q3 := e 3 h3
  omega
theorem turned_read {l : List IV} (h : Written 0 l) {k : Nat} {o : Ob} (ho : (packV 0 l).os[k]? = some o) (h4 : 4 ≤ o.l.length) {t : Nat} (ht : t < 4294967296) (ht0 : t ≠ 0) : readP (tnL (packB 0 l) (nx (packV 0 l).os (packV 0 l).bs k - o.l.length) t 4) (o.at_ : Int) = (0, [], 13) := by
  have hd0 : o.dep = 0 := dep_zero o (List.mem_of_getElem? ho)
  have hL := h.inv.each k o ho
  have hk := h.inv.kinds o (List.mem_of_getElem? ho)
  have hs := h.inv.short o (List.mem_of_getElem? ho)
  have hlt := hL.lt
  have h12 := hL.at12
  rcases hL.ent with ⟨x, post, e, r1, _, _, u4⟩ | ⟨j, p, post, _, _, _, _, r3, _⟩
  · obtain ⟨x0, x1, x2, x3, r, hl⟩ : ∃ x0 x1 x2 x3 r, o.l = x0 :: x1 :: x2 :: x3 :: r := by
      match hq : o.l, h4 with
      | x0 :: x1 :: x2 :: x3 :: r, _ => exact ⟨x0, x1, x2, x3, r, rfl⟩
    have hbs : (packV 0 l).bs = (packV 0 l).bs.take o.at_ ++ (([x] ++ vr o.l.length ++ [] ++ tl (crcL o.l).toNat 4) ++ (o.l ++ post)) := by
      conv => lhs; rw [← List.take_append_drop o.at_ (packV 0 l).bs, e]
      unfold entB
      simp only [List.append_assoc]
    have hb : packB 0 l = ((packV 0 l).bs.take o.at_ ++ ([x] ++ vr o.l.length ++ [] ++ tl (crcL o.l).toNat 4)) ++ (x0 :: x1 :: x2 :: x3 :: (r ++ (post ++ Sha.ofL (packV 0 l).bs))) := by
      have h9 := congrArg (· ++ Sha.ofL (packV 0 l).bs) hbs
      unfold packB
      refine h9.trans ?_
      rw [hl]
      simp only [List.append_assoc, List.cons_append]
    have hp : nx (packV 0 l).os (packV 0 l).bs k - o.l.length = ((packV 0 l).bs.take o.at_ ++ ([x] ++ vr o.l.length ++ [] ++ tl (crcL o.l).toNat 4)).length := by
      rw [← u4]
      unfold entB
      simp only [List.length_append, List.length_take, List.length_cons, List.length_nil, length_tl]
      omega
    have hlen : (packB 0 l).length = (packV 0 l).bs.length + 32 := by unfold packB; rw [List.length_append, Sha.length_ofL]
    rw [hp, hb, tnL_four, List.append_assoc]
    generalize hl2 : (x0 ^^^ byT t 0) :: (x1 ^^^ byT t 1) :: (x2 ^^^ byT t 2) :: (x3 ^^^ byT t 3) :: r = l2
    have hl2n : l2.length = o.l.length := by rw [← hl2, hl]; rfl
    have hne : crcL l2 ≠ crcL o.l := fun q => by
      rw [← hl2, hl] at q
      obtain ⟨z0, z1, z2, z3⟩ := crc_turn q
      exact ht0 (byT_all ht z0 z1 z2 z3)
    have hform : (packV 0 l).bs.take o.at_ ++ ([x] ++ vr o.l.length ++ [] ++ tl (crcL o.l).toNat 4 ++ ((x0 ^^^ byT t 0) :: (x1 ^^^ byT t 1) :: (x2 ^^^ byT t 2) :: (x3 ^^^ byT t 3) :: (r ++ (post ++ Sha.ofL (packV 0 l).bs)))) = ((packV 0 l).bs.take o.at_ ++ ([x] ++ vr o.l.length ++ tl (crcL o.l).toNat 4 ++ (l2 ++ post))) ++ Sha.ofL (packV 0 l).bs := by
      rw [← hl2]
      simp only [List.append_assoc, List.cons_append, List.nil_append]
    rw [hform]
    generalize hB : (packV 0 l).bs.take o.at_ ++ ([x] ++ vr o.l.length ++ tl (crcL o.l).toNat 4 ++ (l2 ++ post)) = B
    have hBl : B.length = (packV 0 l).bs.length := by
      have := congrArg List.length hbs
      rw [← hB]
      simp only [List.length_append, hl2n] at this ⊢
      simp only [List.length_nil] at this
      omega
    have hBd : B.drop o.at_ = [x] ++ vr o.l.length ++ tl (crcL o.l).toNat 4 ++ (l2 ++ post) := by
      rw [← hB]
      have : o.at_ = ((packV 0 l).bs.take o.at_).length := by rw [List.length_take]; omega
      conv => lhs; arg 1; rw [this]
      exact List.drop_left
    have hx0 : (B ++ Sha.ofL (packV 0 l).bs)[((o.at_ : Nat) : Int).toNat]? = some x := by
      have h5 : (B.drop o.at_)[0]? = some x := by rw [hBd]; simp
      rw [List.getElem?_drop, Nat.add_zero] at h5
      rw [Int.toNat_natCast, List.getElem?_append_left (by omega), h5]
    have hop : opV (B ++ Sha.ofL (packV 0 l).bs) (o.at_ : Int) false = (13, zE) := by
      have hl9 : (B ++ Sha.ofL (packV 0 l).bs).length = B.length + 32 := by rw [List.length_append, Sha.length_ofL]
      have hlo := h.lo
      rw [opV_t (by omega) (by omega) hx0, Int.toNat_natCast, tail_pack (Sha.length_ofL _), hBd]
      have d1 : ([x] ++ vr o.l.length ++ tl (crcL o.l).toNat 4 ++ (l2 ++ post)).drop 1 = vr o.l.length ++ (tl (crcL o.l).toNat 4 ++ (l2 ++ post)) := by simp
      have v1 := va_at (m := 4000) d1 (by omega) (by omega)
      have d2 := drop_add d1
      obtain ⟨e1, e2, e3⟩ := rw_at d2 (length_tl _ 4)
      have d3 := drop_add d2
      rw [length_tl] at d3
      obtain ⟨f1, f2, f3⟩ := rn_at d3 hl2n
      rw [opT_w (by omega) (by omega), v1]
      dsimp only
      exact opR_13 (by rw [e2, e3, f3]) (by rw [e1, e2, e3, f1, be_tl (crcL o.l).toNat_lt]; exact fun q => hne (UInt32.toNat_inj.1 q))
    exact rdF_e (by rw [show ((8 : Nat) == 0) = false from rfl, hop]) (by decide)
  · omega
end Go.Proofs.YtgaklngnfecdaaaGreat.Pak
namespace Go.Proofs.YtgaklngnfecdaaaGreat.Pak
open Go.RowKit Zk Zx
open Sha (N xorN andN notN N_ge N_le)
open Go.Proofs.YtgaklngnfecdaaaGreat.Obj (objE objB nameI nameI_len nameI_ok nameI_no zB zB_len rs_tail)
open Oct (vaN rwL rwP rwE rnL rnP rnE be vr tl length_tl)
open Del (scA opf OP OkO mkV encV putR readV aplR)
theorem add_ (g : Nat) (A : Option Addr) (n c : Nat) (A1 : Option Addr) (c1 : Nat) (A2 : Option Addr) (c2 : Nat) (A3 : Option Addr) (c3 : Nat) (its : List It) (s : Pk) (x : It) (chain : Int) (w0 : World) (hw : (sepL (pkL g A n c A1 c1 A2 c2 A3 c3 its s)).holds w0) (hio : Same its s.os) (hits : ∀ y ∈ its, OkM w0 (sepL (pkL g A n c A1 c1 A2 c2 A3 c3 its s)).dom y.p) (hsm : ∀ y ∈ its, y.p.n ≤ 300) (hp : OkM w0 (sepL (pkL g A n c A1 c1 A2 c2 A3 c3 its s)).dom x.p) (hp3 : x.p.n ≤ 300) (hk : 1 ≤ x.kind ∧ x.kind ≤ 4) (hc8 : chain ≤ 8) (hbl : s.bs.length ≤ 20000) (hil : its.length ≤ 1000) (hat : ∀ o ∈ s.os, o.at_ ≤ s.bs.length) : Calls Tryz.prog 57 #[.pointer (some ⟨g, 0, none⟩), .agg (itf x).toArray, .agg (bA (nameI x.kind x.p.l)), .int .i64 chain] w0 fun e w' => ∃ u, e = .returned u ∧ u = .tuple #[] ∧ ∃ A' n' c' A1' c1' A2' c2' A3' c3', Turned w0 w' (sepL (pkL g A n c A1 c1 A2 c2 A3 c3 its s)) (sepL (pkL g A' n' c' A1' c1' A2' c2' A3' c3' (its ++ [x]) (addV chain s (x.kind, x.p.l)))) := by
  rcases (told_ok s.os chain x.kind x.p.l).1 with ⟨h1, _⟩ | ⟨k, o, h1, ho, _, hd, _⟩
  · exact add0 g A n c A1 c1 A2 c2 A3 c3 its s x chain w0 hw hio hits hsm hp hp3 hk hc8 hbl hil hat h1
  · exact add1 g A n c A1 c1 A2 c2 A3 c3 its s x chain w0 hw hio hits hsm hp hp3 hk hc8 hbl hil hat k o h1 ho hd
theorem names_bad {w0 w' : World} {l : List IV} {u : Value} (h : NamesV w0 w' l u) (he : nameE l ≠ 0) : u = .tuple #[.slice none 0 0, .int .i64 (nameE l)] := by
  rcases h with ⟨_, h⟩ | ⟨h, _⟩
  · exact h
  · exact absurd h he
theorem names_good {w0 w' : World} {l : List IV} {u : Value} (h : NamesV w0 w' l u) (he : nameE l = 0) : ∃ A c, u = .tuple #[.slice A l.length c, .int .i64 0] ∧ w'.ownsRow w0.heap.size 41 32 (.slice A l.length c) l.length (l.flatMap idB) := by
  rcases h with ⟨h, _⟩ | ⟨_, h⟩
  · exact absurd he h
  · exact h
structure PKM where
  A : Option Addr
  n : Nat
  c : Nat
  A1 : Option Addr
  c1 : Nat
  A2 : Option Addr
  c2 : Nat
  A3 : Option Addr
  c3 : Nat
def WriteV (w0 w' : World) (chain : Int) (l : List IV) (u : Value) : Prop := (wrE chain l ≠ 0 ∧ Like w0 w' ∧ u = .tuple #[.slice none 0 0, .slice none 0 0, .int .i64 (wrE chain l)]) ∨
  (wrE chain l = 0 ∧ ∃ A c A2 c2, u = .tuple #[.slice A (packB chain l).length c, .slice A2 l.length c2, .int .i64 0] ∧ Zx.St w0 noM [row 5 1 A (packB chain l).length c (bL (packB chain l)), row 67 34 A2 l.length c2 ((packV chain l).os.flatMap plO)] w')
theorem okM_of {w0 w : World} {ps rs : List Res} (S : Zx.St w0 noM (ps ++ rs) w) {p : Part} (h : p.ok w0) : OkM w (sepL rs).dom p := by
  refine ⟨S.rd h, fun ad hn hA ⟨r, hr, hd⟩ => ?_⟩
  have h1 := old_block h hn hA
  have h2 := (S.res r (List.mem_append_right _ hr)).2 _ hd
  rcases h2.2 with h3 | h3
  · omega
  · exact h3
theorem same_take {its : List It} {chain : Int} {n k : Nat} (hk : k ≤ its.length) : Same (its.take k) (packN chain n ((its.map It.v).take k)).os := by
  unfold Same
  rw [List.map_take]
  exact (pack_os (chain := chain) (n := n) (l := its.map It.v) k (by simpa using hk)).symm
theorem rs_dig {w : World} {b t : Nat} {l : List UInt8} (h : Blk w b t (bA (Sha.ofL l))) : Rs w 1 (some ⟨b, 0, none⟩) 32 32 (bL (Sha.ofL l)) := by
  have h1 : (bL (Sha.ofL l)).length = 32 := by rw [length_bL]; exact Sha.length_ofL l
  have := Rs.of_blk (o := 0) (n := 32) h (by show 0 + 32 ≤ (bL (Sha.ofL l)).toArray.size; rw [List.size_toArray, h1]; omega) (by omega)
  rwa [List.drop_zero, show (bA (Sha.ofL l)).toList = bL (Sha.ofL l) from List.toList_toArray .., List.take_of_length_le (by rw [h1]; omega)] at this
theorem take1i {α : Type} {l : List α} {k : Nat} {x : α} (h : l[k]? = some x) : l.take (k + 1) = l.take k ++ [x] := by rw [List.take_add_one, h]; rfl
theorem cat1 (A : Option Addr) (n c : Nat) (l : List UInt8) : Sha.cat [⟨A, n, c, l⟩] = l := by simp [Sha.cat]
theorem write0 (A : Option Addr) (n c : Nat) (its : List It) (chain : Int) (w0 : World) (hits : Rs w0 2 A n c (its.flatMap itf)) (hok : OkI w0 its) (hsm : ∀ x ∈ its, x.p.n ≤ 300) (h24 : its.length ≤ 24) (hne : nameE (its.map It.v) ≠ 0) :
    Calls Tryz.prog 28 #[.slice A n c, .int .i64 chain] w0 fun e w' => ∃ u, e = .returned u ∧ WriteV w0 w' chain (its.map It.v) u := by
 refine enter1 (env := [(0, .slice A n c), (1, .int .i64 chain)]) [.slice A n c, .int .i64 chain] Tryz.func28 rfl Tryz.ntmps28 rfl rfl ?_; have hn := its_len hits; have hcap := hits.cap; have hmax := hits.max; have S0 := St.start w0 noM; refine T_seq fun K1 hK1 => T_region (L_y (y_assign rfl) rfl (L_y (y_assign rfl) rfl (L_y (y_assign rfl) rfl (L_nil (hK1 _ _ (T_seq fun K2 hK2 => T_seq fun K3 hK3 => T_region ?_)))))); refine L_y (y_move rfl) rfl (L_y (y_lss rfl rfl) rfl (L_y (y_move rfl) rfl ?_)); refine L_split 16 rfl (fun h16 => ?_) (fun h16 => ?_)
 ·
  refine L_gno rfl rfl rfl (L_gno rfl rfl rfl (L_y ((by first | exact y_pickT rfl rfl | exact y_pickF rfl rfl)) rfl ?_)); refine L_nil (hK3 _ _ (T_true rfl (T_seq fun K4 hK4 => T_region (L_y (y_assign rfl) rfl (L_y (y_assign rfl) rfl (L_y (y_assign rfl) rfl (L_nil (hK4 _ _ ?_)))))))); refine T_ret ?_; repeat (first | with_reducible refine up_then ?_ | with_reducible refine up_in ?_)
  refine ret3 rfl rfl rfl rfl ?_; have he : wrE chain (its.map It.v) = 2 := by unfold wrE; rw [if_pos (by omega)]
  exact ⟨_, rfl, .inl ⟨by rw [he]; decide, S0.like0, by rw [he]⟩⟩
 ·
  refine L_gyes rfl rfl (L_y (y_move rfl) rfl (L_gyes rfl rfl (L_y (y_gtr rfl rfl) rfl (L_y ((by first | exact y_pickT rfl rfl | exact y_pickF rfl rfl)) rfl ?_)))); refine L_nil (hK3 _ _ ?_); refine T_cond rfl (fun h19 => ?_) (fun h19 => ?_)
  ·
   refine T_seq fun K5 hK5 => T_region (L_y (y_assign rfl) rfl (L_y (y_assign rfl) rfl (L_y (y_assign rfl) rfl (L_nil (hK5 _ _ (T_ret ?_)))))); repeat (first | with_reducible refine up_then ?_ | with_reducible refine up_in ?_)
   refine ret3 rfl rfl rfl rfl ?_; have he : wrE chain (its.map It.v) = 2 := by unfold wrE; rw [if_pos (by omega)]
   exact ⟨_, rfl, .inl ⟨by rw [he]; decide, S0.like0, by rw [he]⟩⟩
  ·
   refine T_skip (hK2 _ _ (T_seq fun K6 hK6 => T_seq fun K7 hK7 => T_region (L_y (y_move rfl) rfl (L_y (y_len Tryz.underlying48 rfl) rfl (L_y (y_gtr rfl rfl) rfl (L_nil (hK7 _ _ ?_))))))); refine T_cond rfl (fun h22 => ?_) (fun h22 => ?_)
   ·
    omega
   ·
    refine T_skip (hK6 _ _ (T_seq fun K8 hK8 => T_region (L_y (y_move rfl) rfl (L_o (o_call Tryz.func54 rfl rfl (names A n c its w0 (S0.rd hits) (OkI.like hok S0.like0) (fun y hy => by have := hsm y hy; omega) (by omega)) rfl rfl ?_))))); rintro e2 w2 ⟨v2, rfl, l2, hN2⟩; refine ⟨_, rfl, ?_⟩; have S2 := S0.like l2; obtain rfl := names_bad hN2 hne; refine L_y (y_move rfl) rfl (L_y (y_extract rfl rfl) rfl (L_y (y_extract rfl rfl) rfl (L_y (y_assign rfl) rfl (L_y (y_assign rfl) rfl (L_nil (hK8 _ _ (T_seq fun K9 hK9 => T_seq fun K10 hK10 => T_region ?_))))))); refine L_y (y_move rfl) rfl (L_y (y_neq rfl rfl) rfl (L_nil (hK10 _ _ ?_))); refine T_cond rfl (fun h29 => ?_) (fun h29 => ?_)
    ·
     refine T_seq fun K11 hK11 => T_region (L_y (y_move rfl) rfl (L_y (y_assign rfl) rfl (L_y (y_assign rfl) rfl (L_y (y_assign rfl) rfl (L_nil (hK11 _ _ (T_ret ?_))))))); repeat (first | with_reducible refine up_then ?_ | with_reducible refine up_in ?_)
     refine ret3 rfl rfl rfl rfl ?_; have he : wrE chain (its.map It.v) = nameE (its.map It.v) := by unfold wrE; rw [if_neg (by omega)]
     exact ⟨_, rfl, .inl ⟨by rw [he]; exact hne, S2.like0, by rw [he]; rfl⟩⟩
    ·
     exact absurd hne h29
theorem write1 (A : Option Addr) (n c : Nat) (its : List It) (chain : Int) (w0 : World) (hits : Rs w0 2 A n c (its.flatMap itf)) (hok : OkI w0 its) (hsm : ∀ x ∈ its, x.p.n ≤ 300) (h24 : its.length ≤ 24) (hne : nameE (its.map It.v) = 0) :
    Calls Tryz.prog 28 #[.slice A n c, .int .i64 chain] w0 fun e w' => ∃ u, e = .returned u ∧ WriteV w0 w' chain (its.map It.v) u := by
 refine enter1 (env := [(0, .slice A n c), (1, .int .i64 chain)]) [.slice A n c, .int .i64 chain] Tryz.func28 rfl Tryz.ntmps28 rfl rfl ?_; have hn := its_len hits; have hcap := hits.cap; have hmax := hits.max; have hvl : (its.map It.v).length = n := by rw [List.length_map]; exact hn.symm
 obtain ⟨hall, _⟩ := nameE_ok hne; have hs3 : ∀ y ∈ (its.map It.v), y.2.length ≤ 300 := fun y hy => by obtain ⟨z, hz, rfl⟩ := List.mem_map.1 hy; have h1 := (hok z hz).lenb; have h2 := hsm z hz; show z.p.l.length ≤ 300; omega
 have hinv := fun (k : Nat) (hk : k ≤ n) => pack_inv (chain := chain) (n := n) hs3 k (by omega) (by omega); have hlaid := fun (hc8 : chain ≤ 8) (k : Nat) (hk : k ≤ n) => pack_laid hc8 (n := n) hs3 (fun y hy => kind_of (hall y hy)) k (by omega) (by omega); have S0 := St.start w0 noM; refine T_seq fun K1 hK1 => T_region (L_y (y_assign rfl) rfl (L_y (y_assign rfl) rfl (L_y (y_assign rfl) rfl (L_nil (hK1 _ _ (T_seq fun K2 hK2 => T_seq fun K3 hK3 => T_region ?_)))))); refine L_y (y_move rfl) rfl (L_y (y_lss rfl rfl) rfl (L_y (y_move rfl) rfl ?_)); refine L_split 16 rfl (fun h16 => ?_) (fun h16 => ?_)
 ·
  refine L_gno rfl rfl rfl (L_gno rfl rfl rfl (L_y ((by first | exact y_pickT rfl rfl | exact y_pickF rfl rfl)) rfl ?_)); refine L_nil (hK3 _ _ (T_true rfl (T_seq fun K4 hK4 => T_region (L_y (y_assign rfl) rfl (L_y (y_assign rfl) rfl (L_y (y_assign rfl) rfl (L_nil (hK4 _ _ ?_)))))))); refine T_ret ?_; repeat (first | with_reducible refine up_then ?_ | with_reducible refine up_in ?_)
  refine ret3 rfl rfl rfl rfl ?_; have he : wrE chain (its.map It.v) = 2 := by unfold wrE; rw [if_pos (by omega)]
  exact ⟨_, rfl, .inl ⟨by rw [he]; decide, S0.like0, by rw [he]⟩⟩
 ·
  refine L_gyes rfl rfl (L_y (y_move rfl) rfl (L_gyes rfl rfl (L_y (y_gtr rfl rfl) rfl (L_y ((by first | exact y_pickT rfl rfl | exact y_pickF rfl rfl)) rfl ?_)))); refine L_nil (hK3 _ _ ?_); refine T_cond rfl (fun h19 => ?_) (fun h19 => ?_)
  ·
   refine T_seq fun K5 hK5 => T_region (L_y (y_assign rfl) rfl (L_y (y_assign rfl) rfl (L_y (y_assign rfl) rfl (L_nil (hK5 _ _ (T_ret ?_)))))); repeat (first | with_reducible refine up_then ?_ | with_reducible refine up_in ?_)
   refine ret3 rfl rfl rfl rfl ?_; have he : wrE chain (its.map It.v) = 2 := by unfold wrE; rw [if_pos (by omega)]
   exact ⟨_, rfl, .inl ⟨by rw [he]; decide, S0.like0, by rw [he]⟩⟩
  ·
   refine T_skip (hK2 _ _ (T_seq fun K6 hK6 => T_seq fun K7 hK7 => T_region (L_y (y_move rfl) rfl (L_y (y_len Tryz.underlying48 rfl) rfl (L_y (y_gtr rfl rfl) rfl (L_nil (hK7 _ _ ?_))))))); refine T_cond rfl (fun h22 => ?_) (fun h22 => ?_)
   ·
    omega
   ·
    refine T_skip (hK6 _ _ (T_seq fun K8 hK8 => T_region (L_y (y_move rfl) rfl (L_o (o_call Tryz.func54 rfl rfl (names A n c its w0 (S0.rd hits) (OkI.like hok S0.like0) (fun y hy => by have := hsm y hy; omega) (by omega)) rfl rfl ?_))))); rintro e2 w2 ⟨v2, rfl, l2, hN2⟩; refine ⟨_, rfl, ?_⟩; have S2 := S0.like l2; obtain ⟨A7, c7, rfl, O7⟩ := names_good hN2 hne; have S3 := S0.adopt l2 O7; refine L_y (y_move rfl) rfl (L_y (y_extract rfl rfl) rfl (L_y (y_extract rfl rfl) rfl (L_y (y_assign rfl) rfl (L_y (y_assign rfl) rfl (L_nil (hK8 _ _ (T_seq fun K9 hK9 => T_seq fun K10 hK10 => T_region ?_))))))); refine L_y (y_move rfl) rfl (L_y (y_neq rfl rfl) rfl (L_nil (hK10 _ _ ?_))); refine T_cond rfl (fun h29 => ?_) (fun h29 => ?_)
    ·
     exact absurd rfl h29
    ·
     refine T_skip (hK9 _ _ (T_seq fun K11 hK11 => T_region (L_y (y_build rfl (show _ = some #[Value.slice none 0 0, .slice none 0 0, .slice none 0 0, .slice none 0 0] by kernel_rfl)) rfl (L_o (o_box rfl S3 rfl fun b4 w4 hb4 S4 => ?_))))); have S5 := (((S4.nilrow 65 2).nilrow 67 34).nilrow 3 1).nilrow 5 1; have S5a := S5.sel [0, 2, 3, 4, 1, 5] (by decide); have S5b : Zx.St w0 noM [row 41 32 A7 (its.map It.v).length c7 ((its.map It.v).flatMap idB), row 65 2 none 0 0 [], row 67 34 none 0 0 [], row 3 1 none 0 0 [], wu (.slice none 0 0) (.slice none 0 0) (.slice none 0 0) b4 none 0 0 []] w4 := St.joinL (ps := [_, _, _, _]) S5a; refine L_y (y_assign rfl) rfl (L_nil (hK11 _ _ (T_seq fun K12 hK12 => T_region (L_y (y_move rfl) rfl (L_y (y_nilp rfl) rfl (L_y (y_fieldA 0 Tryz.underlying113 rfl sz110 rfl rfl rfl) rfl (L_o (o_bsl [_, _, _, _] te22 zz5 S5b rfl rfl rfl rfl rfl rfl rfl rfl fun b6 w6 S6 => L_o (o_bconst S6 5 rfl Tryz.underlying22 Tryz.underlying5 rfl (by omega) rfl fun w7 S7 => ?_))))))))); refine L_o (o_call Tryz.func55 rfl rfl (wrawW b4 none 0 0 ([]) _ _ _ [80, 65, 67, 75] w7 (S7.get 4 rfl) (S7.fix 5 rfl) (by simp only [List.length_append, List.length_cons, List.length_nil, length_tl]; omega)) rfl rfl ?_); rintro e8 w8 ⟨v8, rfl, A8, n8, c8, T8⟩; refine ⟨_, rfl, ?_⟩; have S8 := S7.turn 4 rfl T8; refine L_nil (hK12 _ _ (T_seq fun K13 hK13 => T_region (L_y (y_move rfl) rfl (L_y (y_nilp rfl) rfl (L_y (y_fieldA 0 Tryz.underlying113 rfl sz110 rfl rfl rfl) rfl (L_o (o_call Tryz.func56 rfl rfl (wu32W b4 A8 n8 c8 ([] ++ [80, 65, 67, 75]) 1 w8 (S8.get 4 rfl) (by omega) (by simp only [List.length_append, List.length_cons, List.length_nil, length_tl]; omega)) rfl rfl ?_))))))); rintro e9 w9 ⟨v9, rfl, A9, n9, c9, T9⟩; refine ⟨_, rfl, ?_⟩; have S9 := S8.turn 4 rfl T9; refine L_nil (hK13 _ _ (T_seq fun K14 hK14 => T_region (L_y (y_move rfl) rfl (L_y (y_nilp rfl) rfl (L_y (y_fieldA 0 Tryz.underlying113 rfl sz110 rfl rfl rfl) rfl (L_y (y_move rfl) rfl (L_y (y_len Tryz.underlying48 rfl) rfl (L_y (y_conv is3 Tryz.underlying63 rfl (u32w (by omega))) rfl ?_)))))))); refine L_o (o_call Tryz.func56 rfl rfl (wu32W b4 A9 n9 c9 ([] ++ [80, 65, 67, 75] ++ tl 1 4) n w9 (S9.get 4 rfl) (by omega) (by simp only [List.length_append, List.length_cons, List.length_nil, length_tl]; omega)) rfl rfl ?_); rintro e10 w10 ⟨v10, rfl, A10, n10, c10, T10⟩; refine ⟨_, rfl, ?_⟩; have S10 := S9.turn 4 rfl T10; refine L_nil (hK14 _ _ (T_seq fun K15 hK15 => T_seq fun K16 hK16 => T_region (L_y (y_move rfl) rfl (L_y (y_len Tryz.underlying48 rfl) rfl (L_y (y_move rfl) rfl (L_nil (hK16 _ _ ?_))))))); refine T_block ?_; refine T_loop2 [(1, _), (7, _), (9, _), (50, _), (51, _)] (fun (k : Nat) (m : PKM) => [(52, .int .i64 (k : Int))]) (fun (k : Nat) (m : PKM) => n - k) (fun (k : Nat) (m : PKM) (w : World) => k ≤ n ∧ Zx.St w0 noM ([row 41 32 A7 (its.map It.v).length c7 ((its.map It.v).flatMap idB)] ++ pkL b4 m.A m.n m.c m.A1 m.c1 m.A2 m.c2 m.A3 m.c3 (its.take k) (packN chain n ((its.map It.v).take k))) w) 0 ⟨A10, n10, c10, none, 0, none, 0, none, 0⟩ (Sub.cons rfl (by first | rfl | exact congrArg (Value.int _) (by omega)) (Sub.nil _)) (Sub.cons rfl rfl (Sub.cons rfl rfl (Sub.cons rfl rfl (Sub.cons rfl rfl (Sub.cons rfl rfl (Sub.nil _)))))) ?_ ?_
     ·
      have S11 := S10.sel [0, 1, 2, 3, 4] (by decide); have S70 : Zx.St w0 noM ([row 41 32 A7 (its.map It.v).length c7 ((its.map It.v).flatMap idB)] ++ pkL b4 A10 n10 c10 none 0 none 0 none 0 (its.take 0) (packN chain n ((its.map It.v).take 0))) w10 := S11.cast (by rw [List.take_zero, List.take_zero]; first | rfl | simp [pkL, packN, frontB]); exact ⟨by omega, S70⟩
     ·
      intro k m w12 hrel; obtain ⟨hk, S12⟩ := hrel; refine T_seq fun K17 hK17 => T_region (L_y (y_lss rfl rfl) rfl (L_nil (hK17 _ _ (T_seq fun K18 hK18 => ?_)))); refine T_cond rfl (fun h53 => ?_) (fun h53 => ?_)
      ·
       obtain ⟨x, hx⟩ : ∃ x, its[k]? = some x := ⟨_, List.getElem?_eq_getElem (by omega)⟩; have hxo := hok x (List.mem_of_getElem? hx); have hxs := hsm x (List.mem_of_getElem? hx); have hkd := kind_of (hall _ (List.mem_of_getElem? (vs_at hx))); obtain ⟨i1, i2, i3⟩ := hinv k (by omega); obtain ⟨j1, j2, j3⟩ := hinv (k + 1) (by omega); have hla := hlaid (by omega) k (by omega); refine T_skip (hK18 _ _ (T_seq fun K19 hK19 => T_block (T_seq fun K20 hK20 => T_region (L_y (y_move rfl) rfl (L_y (y_idx Tryz.underlying48 sz65 rfl rfl (S12.rd hits) inferInstance (by omega)) rfl (L_y (y_ldp (f := itf) itf_len Tryz.underlying65 rfl sz65 rfl (S12.rd hits) (by omega) hx) rfl (L_o (o_alloc zz65 S12 rfl fun b13 w13 hb13 S13 => ?_)))))))); refine L_y (y_assign rfl) rfl (L_o (o_stW S13 5 rfl rfl rfl sz65 (by rfl) (fun u hu => itf_one x u (by rw [List.toList_toArray] at hu; exact hu)) fun w14 S14 => ?_)); refine L_nil (hK20 _ _ (T_seq fun K21 hK21 => T_tail 7 hmix (by kernel_rfl) fun w15 l15 K22 hK22 => ?_)); have S15 := S14.like l15; refine HL_y (y_move rfl) rfl (HL_y (y_ldW Tryz.underlying65 rfl sz65 rfl (S15.blk 5 rfl) (show _ = itf x ∧ _ from ⟨rfl, rfl⟩)) rfl (HL_y (y_move rfl) rfl (HL_y (y_move rfl) rfl (HL_y (y_idx Tryz.underlying81 sz41 rfl rfl (S15.row 0 rfl) inferInstance (by omega)) rfl (HL_y (y_ldp (f := idB) idB_len Tryz.underlying41 rfl sz41 rfl (S15.row 0 rfl) (by omega) (vs_at hx)) rfl (HL_y (y_move rfl) rfl (HL_nil (hK22 _ ?_)))))))); have Sq16 : Zx.St w0 noM ([_, _] ++ pkL b4 m.A m.n m.c m.A1 m.c1 m.A2 m.c2 m.A3 m.c3 (its.take k) (packN chain n ((its.map It.v).take k))) w15 := S15.sel [0, 5, 1, 2, 3, 4] (by decide); refine L_o (o_call Tryz.func57 rfl rfl (add_ b4 m.A m.n m.c m.A1 m.c1 m.A2 m.c2 m.A3 m.c3 (its.take k) (packN chain n ((its.map It.v).take k)) x chain w15 (St.getL (ps := [_, _]) Sq16) (same_take (by omega)) (fun y hy => okM_of (ps := [_, _]) Sq16 (hok y (List.mem_of_mem_take hy))) (fun y hy => hsm y (List.mem_of_mem_take hy)) (okM_of (ps := [_, _]) Sq16 hxo) hxs hkd (by omega) (by omega) (by rw [List.length_take]; omega) (fun y hy => by obtain ⟨j, hj⟩ := List.mem_iff_getElem?.1 hy; exact Nat.le_of_lt (hla.each j y hj).lt)) rfl rfl ?_); rintro e16 w16 ⟨v16, rfl, rfl, A16, n16, c16, AA16, ca16, AB16, cb16, AC16, cc16, T16⟩; refine ⟨_, rfl, ?_⟩; have S16 := St.turnL (ps := [_, _]) Sq16 T16; have hnk := wu_len (S16.get 5 rfl); rw [← packN_succ (n := n) (vs_at hx)] at hnk; refine L_nil (hK21 _ _ (T_seq fun K23 hK23 => T_region (L_y (y_move rfl) rfl (L_y (y_nilp rfl) rfl (L_y (y_fieldA 0 Tryz.underlying113 rfl sz110 rfl rfl rfl) rfl (L_o (o_call Tryz.func58 rfl rfl (wlenW b4 _ _ _ _ w16 (S16.get 5 rfl)) rfl rfl ?_))))))); rintro e17 w17 ⟨v17, rfl, l17, rfl⟩; refine ⟨_, rfl, ?_⟩; have S17 := S16.like l17; refine L_y (y_gtr rfl rfl) rfl (L_nil (hK23 _ _ ?_)); refine T_cond rfl (fun h69 => ?_) (fun h69 => ?_)
       ·
        omega
       ·
        refine T_skip (hK19 _ _ (T_region (L_y (y_add rfl rfl (i64w (by omega))) rfl (L_y (y_move rfl) rfl (L_nil ?_))))); have S91 : Zx.St w0 noM ([row 41 32 A7 (its.map It.v).length c7 ((its.map It.v).flatMap idB)] ++ pkL b4 _ _ _ _ _ _ _ _ _ (its.take k ++ [x]) (addV chain (packN chain n ((its.map It.v).take k)) (x.kind, x.p.l))) w17 := S17.sel [0, 2, 3, 4, 5] (by decide); rw [← packN_succ (n := n) (vs_at hx), ← take1i hx] at S91; refine ⟨k + 1, ⟨_, _, _, _, _, _, _, _, _⟩, by omega, ⟨by omega, S91⟩, ?_⟩; exact (Sub.cons rfl (by first | rfl | exact congrArg (Value.int _) (by omega)) (Sub.cons rfl rfl (Sub.cons rfl rfl (Sub.cons rfl rfl (Sub.cons rfl rfl (Sub.cons rfl rfl (Sub.nil _)))))))
      ·
       have hW : Written chain (its.map It.v) := written (by omega) (by omega) hs3 hall; have hke : k = n := by omega
       subst hke; rw [List.take_of_length_le (l := its) (by omega), List.take_of_length_le (l := (its.map It.v)) (by omega)] at S12; subst hvl; have hnb : (packV chain (its.map It.v)).bs.length = m.n := wu_len (S12.get 4 rfl); have hWl := hW.hi; refine T_exit (hK15 _ _ (T_seq fun K24 hK24 => T_region (L_y (y_move rfl) rfl (L_y (y_nilp rfl) rfl (L_y (y_fieldA 0 Tryz.underlying113 rfl sz110 rfl rfl rfl) rfl (L_o (o_call Tryz.func59 rfl rfl (wbytesW b4 _ _ _ _ w12 (S12.get 4 rfl) (Nat.le_trans hWl (by decide))) rfl rfl ?_))))))); rintro e18 w18 ⟨v18, rfl, l18, A18, m18, c18, rfl, O18⟩; refine ⟨_, rfl, ?_⟩; have S18 := S12.adopt l18 O18; have hm18 : (packV chain (its.map It.v)).bs.length = m18 := (S18.row 5 rfl).lenb; refine L_y (y_assign rfl) rfl (L_nil (hK24 _ _ (T_seq fun K25 hK25 => T_region (L_y (y_move rfl) rfl (L_o (o_bsl [_] te155 zz22 S18 rfl rfl rfl rfl rfl rfl rfl rfl fun b19 w19 S19 => L_o (o_call Tryz.func50 rfl rfl (Sha.shaof [⟨_, _, _, (packV chain (its.map It.v)).bs⟩] _ _ _ w19 (S19.row 6 rfl) (fun p hp => by obtain rfl := List.mem_singleton.1 hp; exact S19.row 5 rfl) (by rw [cat1]; omega) (by simp)) rfl rfl ?_))))))); rintro e20 w20 ⟨v20, rfl, l20, hu20⟩; refine ⟨_, rfl, ?_⟩; have S20 := S19.like l20; rw [cat1] at hu20; subst hu20; refine L_o (o_alloc zz41 S20 rfl fun b21 w21 hb21 S21 => ?_); have S22 := S21.blkc 7 rfl (cs' := bA zB) (by kernel_rfl); refine L_o (o_stW S22 7 rfl rfl rfl (by first | exact sz41 | (rw [size_bA, Sha.length_ofL]; exact sz41)) (by first | rfl | (rw [size_bA, size_bA, Sha.length_ofL]; rfl)) (Sha.bA_one _) fun w23 S23 => ?_); refine L_nil (hK25 _ _ (T_seq fun K26 hK26 => T_drawn (fun w => Blk w b4 113 #[.slice m.A m.n m.c, .slice m.A1 its.length m.c1, .slice m.A2 (packV chain (its.map It.v)).os.length m.c2, .slice m.A3 (packV chain (its.map It.v)).os.length m.c3]) [(0, true), (1, true), (3, true), (4, true), (5, true), (6, true), (2, false), (7, true), (8, true), (9, true)] hmix (by kernel_rfl) (fun w l => ((S23.like l).get 4 rfl).1) fun w24 l24 => ?_)); have S24 := S23.like l24; refine DL_y rfl (y_move rfl) rfl (DL_y rfl (y_aslice Tryz.underlying41 sz5 rfl) rfl (DL_y rfl (y_move rfl) rfl (DL_y rfl (y_nilp rfl) rfl (DL_y rfl (y_fieldA 2 Tryz.underlying113 rfl sz50 rfl rfl rfl) rfl (DL_y rfl (y_ldS Tryz.underlying50 rfl rfl (fun w h => (h.cell _).trans (by rfl))) rfl ?_))))); refine DL_o rfl (o_app te22 S24 5 rfl rfl rfl (rs_dig (S24.blk 7 rfl)) (bL_one _) rfl (by omega) (by omega) fun A25 c25 w25 S25 => ⟨(S25.get 4 rfl).1, (DL_y rfl (y_assign rfl) rfl (DL_y rfl (y_assign rfl) rfl (DL_y rfl (y_assign rfl) rfl (DL_nil (hK26 _ _ (T_ret ?_))))))⟩); repeat (first | with_reducible refine up_then ?_ | with_reducible refine up_in ?_)
       refine ret3 rfl rfl rfl rfl ?_; have he : wrE chain (its.map It.v) = 0 := by unfold wrE; rw [if_neg (by omega), hne]
       have S90 := S25.sel [5, 2] (by decide); have hpl : (packB chain (its.map It.v)).length = (packV chain (its.map It.v)).bs.length + 32 := by unfold packB; rw [List.length_append, Sha.length_ofL]
       have S91 := S90.rowc 0 rfl (n' := (packB chain (its.map It.v)).length) (xs' := bL (packB chain (its.map It.v))) (by rw [hpl]; omega) (by unfold packB; unfold bL; rw [List.map_append]; rfl); have S92 := S91.rowc 1 rfl (n' := (its.map It.v).length) (xs' := (packV chain (its.map It.v)).os.flatMap plO) hW.cnt rfl; refine ⟨_, rfl, .inr ⟨he, _, _, _, _, ?_, S92⟩⟩; rw [hpl, hm18, hW.cnt]; rfl
end Go.Proofs.YtgaklngnfecdaaaGreat.Pak
