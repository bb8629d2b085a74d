import Derived.Test.YtgaklngnfecdaaaGreatMgPReads7
import Derived.Test.YtgaklngnfecdaaaGreatMgPReads2
import Derived.Test.YtgaklngnfecdaaaGreatMgPReads6
import Derived.Test.YtgaklngnfecdaaaGreatMgPReads3
import Derived.Test.YtgaklngnfecdaaaGreatMgPReads5
set_option linter.unusedSimpArgs false
set_option linter.unusedVariables false
set_option maxRecDepth 100000
set_option maxHeartbeats 1000000
namespace Go.Proofs.YtgaklngnfecdaaaGreat.Pak
open Go.RowKit Zk Zx
open Sha (N xorN andN notN N_ge N_le)
open Go.Proofs.YtgaklngnfecdaaaGreat.Obj (objE objB nameI nameI_len nameI_ok nameI_no zB zB_len rs_tail)
open Oct (vaN rwL rwP rwE rnL rnP rnE be vr tl length_tl)
open Del (scA opf OP OkO mkV encV putR readV aplR)
theorem name_ (k : Int) (B : Option Addr) (m d : Nat) (b : List UInt8) (w0 : World) (hb : Rs w0 1 B m d (bL b)) (hm9 : m ≤ 90000) :
    Calls Tryz.prog 23 #[.int .i64 k, .slice B m d] w0 fun e w' => ∃ u, e = .returned u ∧ Like w0 w' ∧ u = .tuple #[.agg (bA (nameI k b)), .int .i64 (objE k b)] := by
  by_cases he : objE k b = 0
  · exact Obj.name1 k B m d b w0 hb hm9 he
  · exact Obj.name0 k B m d b w0 hb hm9 he
def NamesV (w0 w' : World) (l : List IV) (u : Value) : Prop := (nameE l ≠ 0 ∧ u = .tuple #[.slice none 0 0, .int .i64 (nameE l)]) ∨ (nameE l = 0 ∧ ∃ A c, u = .tuple #[.slice A l.length c, .int .i64 0] ∧ w'.ownsRow w0.heap.size 41 32 (.slice A l.length c) l.length (l.flatMap idB))
theorem vs_at {its : List It} {k : Nat} {x : It} (hx : its[k]? = some x) : (its.map It.v)[k]? = some (x.kind, x.p.l) := by rw [List.getElem?_map, hx]; rfl
theorem ok_next {l : List IV} {k : Nat} {x : IV} (hx : l[k]? = some x) (h : ∀ y ∈ l.take k, objE y.1 y.2 = 0) (he : objE x.1 x.2 = 0) : ∀ y ∈ l.take (k + 1), objE y.1 y.2 = 0 := fun y hy => by
  rw [List.take_add_one, hx] at hy
  rcases List.mem_append.1 hy with q | q
  · exact h y q
  · obtain rfl := List.mem_singleton.1 q
    exact he
theorem ids_next {l : List IV} {k : Nat} {x : IV} (hx : l[k]? = some x) : idsV (l.take (k + 1)) = idsV (l.take k) ++ [nameI x.1 x.2] := by
  rw [List.take_add_one, hx]
  unfold idsV
  rw [List.map_append]
  rfl
theorem fm_next {l : List IV} {k : Nat} {x : IV} (hx : l[k]? = some x) : (l.take (k + 1)).flatMap idB = (l.take k).flatMap idB ++ idB x := by
  rw [List.take_add_one, hx, List.flatMap_append]
  simp
theorem ids_len (l : List IV) : (idsV l).length = l.length := by simp [idsV]
theorem id_part (x : IV) : ((bA (nameI x.1 x.2)).toList.drop 0).take 32 = idB x ∧ (idB x).length = 32 := by
  refine ⟨?_, idB_len x⟩
  rw [List.drop_zero]
  exact List.take_of_length_le (Nat.le_of_eq (idB_len x))
theorem idB_one (x : IV) : ∀ u ∈ idB x, u.oneCell' = true := bL_one _
theorem names (A : Option Addr) (n c : Nat) (its : List It) (w0 : World) (hits : Rs w0 2 A n c (its.flatMap itf)) (hok : OkI w0 its) (hsm : ∀ x ∈ its, x.p.n ≤ 90000) (hn9 : n ≤ 100000) :
    Calls Tryz.prog 54 #[.slice A n c] w0 fun e w' => ∃ u, e = .returned u ∧ Like w0 w' ∧ NamesV w0 w' (its.map It.v) u := by
 refine enter1 (env := [(0, .slice A n c)]) [.slice A n c] Tryz.func54 rfl Tryz.ntmps54 rfl rfl ?_; have hn := its_len hits; have hcap := hits.cap; have hmax := hits.max; have S0 := St.start w0 noM; refine T_seq fun K1 hK1 => T_region (L_y (y_assign rfl) rfl (L_y (y_assign rfl) rfl (L_nil (hK1 _ _ (T_seq fun K2 hK2 => T_region (L_y (y_move rfl) rfl (L_y (y_len Tryz.underlying48 rfl) rfl (L_o (o_makeN te81 [] (by simp) (fun i hi => by omega) (by omega) S0 rfl rfl inferInstance inferInstance rfl (by omega) (by omega) (by omega) fun b1 w1 S1 => ?_))))))))); refine L_y (y_assign rfl) rfl (L_nil (hK2 _ _ (T_seq fun K3 hK3 => T_region (L_o (o_makeMapB (n := 32) S1 rfl fun bm w2 hbm S2 => L_y (y_assign rfl) rfl (L_nil (hK3 _ _ (T_seq fun K4 hK4 => T_seq fun K5 hK5 => T_region (L_y (y_move rfl) rfl (L_y (y_len Tryz.underlying48 rfl) rfl ?_)))))))))); refine L_y (y_move rfl) rfl (L_nil (hK5 _ _ (T_block ?_))); refine T_loop3 [(0, _), (5, _), (14, _), (15, _)] (fun (k : Nat) (A1 : Option Addr) (c1 : Nat) => [(16, .int .i64 (k : Int)), (4, .slice A1 k c1)]) (fun (k : Nat) (A1 : Option Addr) (c1 : Nat) => n - k) (fun (k : Nat) (A1 : Option Addr) (c1 : Nat) (w : World) => (k ≤ n ∧ ∀ y ∈ (its.map It.v).take k, objE y.1 y.2 = 0) ∧ Zx.St w0 noM [Zx.row 41 32 A1 k c1 (((its.map It.v).take k).flatMap idB), mapB 32 bm (setB (idsV ((its.map It.v).take k)))] w) 0 _ _ (Sub.cons rfl (by first | rfl | exact congrArg (Value.int _) (by omega)) (Sub.cons rfl (by first | rfl | exact congrArg (Value.int _) (by omega)) (Sub.nil _))) (Sub.cons rfl rfl (Sub.cons rfl rfl (Sub.cons rfl rfl (Sub.cons rfl rfl (Sub.nil _))))) ?_ ?_
 ·
  exact ⟨⟨by omega, fun y hy => by cases hy⟩, S2⟩
 ·
  intro k A1 c1 w3 hrel; obtain ⟨⟨hk, hok2⟩, S3⟩ := hrel; refine T_seq fun K6 hK6 => T_region (L_y (y_lss rfl rfl) rfl (L_nil (hK6 _ _ (T_seq fun K7 hK7 => ?_)))); refine T_cond rfl (fun h17 => ?_) (fun h17 => ?_)
  ·
   obtain ⟨x, hx⟩ : ∃ x, its[k]? = some x := ⟨_, List.getElem?_eq_getElem (by omega)⟩; have hxo := hok.at hx; have hxm := hsm x (List.mem_of_getElem? hx); refine T_skip (hK7 _ _ (T_seq fun K8 hK8 => T_block (T_seq fun K9 hK9 => T_region (L_y (y_idx Tryz.underlying48 sz65 rfl rfl (S3.rd hits) inferInstance (by omega)) rfl (L_y (y_ldp (f := itf) itf_len Tryz.underlying65 rfl sz65 rfl (S3.rd hits) (by omega) hx) rfl (L_o (o_alloc zz65 S3 rfl fun b4 w4 hb4 S4 => L_o (o_stW S4 2 rfl rfl rfl sz65 (by rfl) (fun u hu => itf_one x u (by rw [List.toList_toArray] at hu; exact hu)) fun w5 S5 => ?_)))))))); refine L_nil (hK9 _ _ (T_seq fun K10 hK10 => T_region (L_y (y_fieldA 0 Tryz.underlying65 rfl sz3 rfl rfl rfl) rfl (L_y (y_ldc Tryz.underlying3 rfl rfl (((S5.blk 2 rfl).cell _).trans (by rfl))) rfl ?_)))); refine L_y (y_fieldA 1 Tryz.underlying65 rfl sz22 rfl rfl rfl) rfl (L_y (y_ldc Tryz.underlying22 rfl rfl (((S5.blk 2 rfl).cell _).trans (by rfl))) rfl ?_); refine L_o (o_call Tryz.func23 rfl rfl (name_ x.kind x.p.A x.p.n x.p.c x.p.l w5 (S5.rd hxo) hxm) rfl rfl ?_); rintro e6 w6 ⟨v6, rfl, l6, rfl⟩; refine ⟨_, rfl, (have S6 := S5.like l6; L_y (y_move rfl) rfl (L_y (y_extract rfl rfl) rfl (L_y (y_extract rfl rfl) rfl (L_o (o_alloc zz41 S6 rfl fun b7 w7 hb7 S7 => have S8 : Zx.St w0 noM [Zx.row 41 32 A1 k c1 (((its.map It.v).take k).flatMap idB), mapB 32 bm (setB (idsV ((its.map It.v).take k))), blk b4 65 (itf x).toArray, blk b7 41 (bA zB)] w7 := S7.cast (by kernel_rfl); L_o (o_stW S8 3 rfl rfl rfl (by first | exact sz41 | (rw [size_bA, nameI_len]; exact sz41)) (by first | rfl | (rw [size_bA, size_bA, nameI_len]; rfl)) (Sha.bA_one _) fun w9 S9 => ?_))))))⟩; refine L_y (y_assign rfl) rfl (L_nil (hK10 _ _ (T_seq fun K11 hK11 => T_seq fun K12 hK12 => T_region (L_y (y_move rfl) rfl (L_y (y_neq rfl rfl) rfl (L_nil (hK12 _ _ ?_))))))); refine T_cond rfl (fun h29 => ?_) (fun h29 => ?_)
   ·
    refine T_seq fun K13 hK13 => T_region (L_y (y_move rfl) rfl (L_y (y_assign rfl) rfl (L_y (y_assign rfl) rfl (L_nil (hK13 _ _ (T_ret (ur (ret2 rfl rfl rfl ?_)))))))); have he : nameE (its.map It.v) = objE x.kind x.p.l := by rw [nameE_e (by rw [nmE_at hok2 (vs_at hx) h29]; exact h29), nmE_at hok2 (vs_at hx) h29]
    exact ⟨_, rfl, S9.like0, .inl ⟨by rw [he]; exact h29, by rw [he]; rfl⟩⟩
   ·
    refine T_skip (hK11 _ _ (T_seq fun K14 hK14 => T_region (L_y (y_move rfl) rfl (L_y (y_ldW Tryz.underlying41 rfl sz41 rfl (S9.blk 3 rfl) (id_part (x.kind, x.p.l))) rfl (L_o (o_bsl (idB (x.kind, x.p.l)) te81 zz41 S9 rfl rfl rfl (by simp [Value.cells, idB_len]) (by simp [Value.cells]) rfl rfl rfl fun b10 w10 S10 => ?_)))))); refine L_o (o_app te81 S10 0 rfl rfl rfl (by first | exact S10.row 0 rfl | exact S10.row 4 rfl) (idB_one _) rfl (by omega) (by omega) fun A11 c11 w11 S11 => ?_); have S11d := S11.drop (rs' := [_, _, _, _]) (.cons_cons _ (.cons_cons _ (.cons_cons _ (.cons_cons _ (.cons _ (.refl _)))))); refine L_y (y_assign rfl) rfl (L_nil (hK14 _ _ (T_region (L_y (y_move rfl) rfl (L_y (y_ldW Tryz.underlying41 rfl sz41 rfl (S11d.blk 3 rfl) (id_part (x.kind, x.p.l))) rfl (L_o (o_mapUpB S11d 1 rfl Tryz.underlying162 Tryz.underlying41 Tryz.underlying5 sz5 rfl rfl rfl (nameI_len _ _) fun w12 S12 => L_nil (hK8 _ _ (T_region (L_y (y_add rfl rfl (i64w (by omega))) rfl (L_y (y_move rfl) rfl (L_nil ?_)))))))))))); have S91 := S12.sel [0, 1] (by decide); have S92 := S91.rowc 0 rfl (n' := k + 1) (xs' := ((its.map It.v).take (k + 1)).flatMap idB) rfl (fm_next (vs_at hx)).symm; rw [← setB_snoc, ← ids_next (vs_at hx)] at S92; refine ⟨k + 1, _, _, by omega, ⟨⟨by omega, ok_next (vs_at hx) hok2 (Classical.not_not.1 h29)⟩, S92⟩, ?_⟩; exact (Sub.cons rfl (by first | rfl | exact congrArg (Value.int _) (by omega)) (Sub.cons rfl (by first | rfl | exact congrArg (Value.int _) (by omega)) (Sub.cons rfl rfl (Sub.cons rfl rfl (Sub.cons rfl rfl (Sub.cons rfl rfl (Sub.nil _)))))))
  ·
   have hke : k = n := by omega
   subst hke; have hvl : (its.map It.v).length = k := by rw [List.length_map]; exact hn.symm
   rw [List.take_of_length_le (by omega)] at hok2; rw [List.take_of_length_le (by omega)] at S3; have hset := (setB_all (idsV (its.map It.v))).2.2; have hset2 := (setB_all (idsV (its.map It.v))).2.1; rw [ids_len, hvl] at hset hset2; have hall := hok2; refine T_exit (hK4 _ _ (T_seq fun K15 hK15 => T_seq fun K16 hK16 => T_region (L_y (y_move rfl) rfl (L_y (y_lenB (S3.get 1 rfl) Tryz.underlying162 rfl) rfl (L_y (y_move rfl) rfl (L_y (y_len Tryz.underlying48 rfl) rfl (L_y (y_lss rfl rfl) rfl (L_nil (hK16 _ _ ?_))))))))); refine T_cond rfl (fun h42 => ?_) (fun h42 => ?_)
   ·
    refine T_seq fun K17 hK17 => T_region (L_y (y_assign rfl) rfl (L_y (y_assign rfl) rfl (L_nil (hK17 _ _ (T_ret (ur (ret2 rfl rfl rfl ?_))))))); have he : nameE (its.map It.v) = 17 := nameE_17 (nmE_zero hall) (fun q => by have := hset.2 q; omega); exact ⟨_, rfl, S3.like0, .inl ⟨by rw [he]; decide, by rw [he]⟩⟩
   ·
    refine T_skip (hK15 _ _ (T_seq fun K18 hK18 => T_region (L_y (y_move rfl) rfl (L_y (y_assign rfl) rfl (L_y (y_assign rfl) rfl (L_nil (hK18 _ _ (T_ret (ur (ret2 rfl rfl rfl ?_)))))))))); have he : nameE (its.map It.v) = 0 := nameE_0 (nmE_zero hall) (hset.1 (by omega)); have hO := S3.own 0 rfl; rw [← hvl] at hO; refine ⟨_, rfl, S3.like0, .inr ⟨he, A1, c1, by rw [hvl], hO⟩⟩
end Go.Proofs.YtgaklngnfecdaaaGreat.Pak
namespace Go.Proofs.YtgaklngnfecdaaaGreat.Pak
open Go.RowKit Zk Zx
open Sha (N xorN andN notN N_ge N_le)
open Go.Proofs.YtgaklngnfecdaaaGreat.Obj (objE objB nameI nameI_len nameI_ok nameI_no zB zB_len rs_tail)
open Oct (vaN rwL rwP rwE rnL rnP rnE be vr tl length_tl)
open Del (scA opf OP OkO mkV encV putR readV aplR)
theorem flat_at {α : Type} (f : α → List Value) (size : Nat) (hlen : ∀ y, (f y).length = size) (l : List α) (k : Nat) (y : α) (h : l[k]? = some y) (i : Nat) (hi : i < size) : (l.flatMap f)[k * size + i]? = (f y)[i]? := by
  rw [← flat_cut f size hlen l k y h, List.getElem?_take, if_pos hi, List.getElem?_drop]
def depV (o : Ob) : Value := .int .i64 (o.dep : Int)
def Ob.v (o : Ob) : IV := (o.kind, o.l)
def Same (its : List It) (os : List Ob) : Prop := its.map It.v = os.map Ob.v
theorem Same.len {its : List It} {os : List Ob} (h : Same its os) : its.length = os.length := by have := congrArg List.length h; simpa using this
theorem Same.at {its : List It} {os : List Ob} (h : Same its os) {k : Nat} {o : Ob} (ho : os[k]? = some o) : ∃ x, its[k]? = some x ∧ x.kind = o.kind ∧ x.p.l = o.l := by
  have h1 : (its.map It.v)[k]? = some o.v := by rw [h, List.getElem?_map, ho]; rfl
  rw [List.getElem?_map] at h1
  cases hx : its[k]? with
  | none => rw [hx] at h1; cases h1
  | some x =>
    rw [hx] at h1
    have h2 : x.v = o.v := Option.some.inj h1
    exact ⟨x, rfl, congrArg Prod.fst h2, congrArg Prod.snd h2⟩
theorem dep_get {os : List Ob} {k : Nat} {o : Ob} (ho : os[k]? = some o) : (os.map depV)[k]? = some (.int .i64 (o.dep : Int)) := by rw [List.getElem?_map, ho]; rfl
open Del (nL nL_app)
theorem nL_snoc (l : List Nat) (k : Nat) (v : Int) (h : v = (k : Int)) : nL l ++ [Value.int .i64 v] = nL (l ++ [k]) := by subst h; simp [nL]
theorem nL_get {l : List Nat} {i k : Nat} (h : l[i]? = some k) : (nL l)[i]? = some (Value.int .i64 (k : Int)) := by unfold nL; rw [List.getElem?_map, h]; rfl
theorem candidates (g : Nat) (x0 x2 : Value) (A1 : Option Addr) (n1 c1 : Nat) (A3 : Option Addr) (n3 c3 : Nat) (its : List It) (os : List Ob) (kind chain : Int) (w0 : World) (hg : Blk w0 g 113 #[x0, .slice A1 n1 c1, x2, .slice A3 n3 c3]) (hits : Rs w0 2 A1 n1 c1 (its.flatMap itf)) (hds : Rs w0 1 A3 n3 c3 (os.map depV)) (hio : Same its os) (hn9 : n1 ≤ 100000) :
    Calls Tryz.prog 120 #[.pointer (some ⟨g, 0, none⟩), .int .i64 kind, .int .i64 chain] w0 fun e w' => ∃ u, e = .returned u ∧ Like w0 w' ∧ ∃ A5 c5, u = .slice A5 (candF os kind chain os.length 0).length c5 ∧ w'.ownsRow w0.heap.size 3 1 (.slice A5 (candF os kind chain os.length 0).length c5) (candF os kind chain os.length 0).length (nL (candF os kind chain os.length 0)) := by
 refine enter1 (env := [(0, .pointer (some ⟨g, 0, none⟩)), (1, .int .i64 kind), (2, .int .i64 chain)]) [.pointer (some ⟨g, 0, none⟩), .int .i64 kind, .int .i64 chain] Tryz.func120 rfl Tryz.ntmps120 rfl rfl ?_; have hn1 := its_len hits; have hsl := hio.len; have hn3 := hds.len; rw [List.length_map] at hn3; have hcap1 := hits.cap; have hcap3 := hds.cap; have hmax1 := hits.max; have hmax3 := hds.max; have S0 := St.start w0 noM; refine T_seq fun K1 hK1 => T_region (L_y (y_assign rfl) rfl (L_nil (hK1 _ _ (T_seq fun K2 hK2 => T_region (have S1 := S0.nilrow 3 1; L_y (y_assign rfl) rfl (L_nil (hK2 _ _ (T_seq fun K3 hK3 => T_region (L_y (y_assign rfl) rfl ?_))))))))); refine L_nil (hK3 _ _ (T_seq fun K4 hK4 => T_seq fun K5 hK5 => T_region (L_y (y_move rfl) rfl (L_y (y_nilp rfl) rfl (L_y (y_fieldA 1 Tryz.underlying113 rfl sz48 rfl rfl rfl) rfl (L_y (y_ldc Tryz.underlying48 rfl rfl (((S1.rdB hg).cell _).trans (by rfl))) rfl ?_)))))); refine L_y (y_len Tryz.underlying48 rfl) rfl (L_y (y_sub rfl rfl (i64w (by omega))) rfl (L_y (y_assign rfl) rfl (L_nil (hK5 _ _ (T_block ?_))))); refine T_loop5 [(0, _), (1, _), (2, _)] (fun (j : Nat) (seen : Nat) (out : List Nat) (A5 : Option Addr) (c5 : Nat) => [(9, .int .i64 ((j : Int) - 1)), (8, .int .i64 (seen : Int)), (7, .slice A5 out.length c5)]) (fun (j : Nat) (seen : Nat) (out : List Nat) (A5 : Option Addr) (c5 : Nat) => j) (fun (j : Nat) (seen : Nat) (out : List Nat) (A5 : Option Addr) (c5 : Nat) (w : World) => (j ≤ os.length ∧ out.length + j ≤ os.length ∧ seen ≤ 4 ∧ out ++ candF os kind chain j seen = candF os kind chain os.length 0) ∧ Zx.St w0 noM [Zx.row 3 1 A5 out.length c5 (nL out)] w) os.length 0 [] none 0 (Sub.cons rfl (by first | rfl | exact congrArg (Value.int _) (by omega)) (Sub.cons rfl (by first | rfl | exact congrArg (Value.int _) (by omega)) (Sub.cons rfl (by first | rfl | exact congrArg (Value.int _) (by omega)) (Sub.nil _)))) (Sub.cons rfl rfl (Sub.cons rfl rfl (Sub.cons rfl rfl (Sub.nil _)))) ?_ ?_
 ·
  exact ⟨⟨Nat.le_refl _, by simp, by omega, rfl⟩, S1⟩
 ·
  intro j seen out A5 c5 w2 hrel; obtain ⟨⟨hj, hol, hsn, hcs⟩, S2⟩ := hrel; refine T_seq fun K6 hK6 => T_seq fun K7 hK7 => T_region (L_y (y_move rfl) rfl (L_y (y_geq rfl rfl) rfl (L_y (y_move rfl) rfl ?_))); refine L_split 18 rfl (fun h18 => ?_) (fun h18 => ?_)
  ·
   refine L_gyes rfl rfl (L_y (y_move rfl) rfl (L_gyes rfl rfl (L_y (y_lss rfl rfl) rfl (L_y (y_pk rfl rfl) rfl (L_nil (hK7 _ _ ?_)))))); refine T_cond rfl (fun h21 => ?_) (fun h21 => ?_)
   ·
    obtain ⟨o, ho⟩ : ∃ o, os[j - 1]? = some o := ⟨_, List.getElem?_eq_getElem (by omega)⟩; obtain ⟨x, hx, hxk, hxl⟩ := hio.at ho; refine T_skip (hK6 _ _ (T_seq fun K8 hK8 => T_block (T_seq fun K9 hK9 => T_seq fun K10 hK10 => T_region (L_y (y_move rfl) rfl (L_y (y_nilp rfl) rfl (L_y (y_fieldA 1 Tryz.underlying113 rfl sz48 rfl rfl rfl) rfl (L_y (y_ldc Tryz.underlying48 rfl rfl (((S2.rdB hg).cell _).trans (by rfl))) rfl ?_))))))); refine L_y (y_move rfl) rfl (L_y (y_idx Tryz.underlying48 sz65 rfl rfl (S2.rd hits) (Nt.mk (by omega) : Nt _ (j - 1)) (by omega)) rfl (L_y (y_fieldR 0 Tryz.underlying65 rfl sz3 rfl rfl (S2.rd hits) (by omega) rfl) rfl (L_y (y_ldf Tryz.underlying3 rfl rfl (S2.rd hits) (by omega) ((flat_at itf 2 itf_len its (j - 1) x hx 0 (by omega)).trans (by rfl))) rfl ?_))); refine L_y (y_move rfl) rfl (L_y (y_neq rfl rfl) rfl (L_nil (hK10 _ _ ?_))); refine T_cond rfl (fun h33 => ?_) (fun h33 => ?_)
    ·
     refine T_exit (hK8 _ _ (T_region (L_y (y_move rfl) rfl (L_y (y_sub rfl rfl (i64w (by omega))) rfl (L_y (y_assign rfl) rfl (L_nil (⟨j - 1, seen, out, A5, c5, by omega, ⟨⟨by omega, by (first | omega | (rw [List.length_append]; simp only [List.length_singleton]; omega)), by omega, by rw [← hcs, show j = j - 1 + 1 by omega, cand_skip (by omega) (by simpa using ho) (by rw [← hxk]; exact h33)]; simp⟩, S2⟩, ?_⟩))))))); exact (Sub.cons rfl (by first | rfl | exact congrArg (Value.int _) (by omega)) (Sub.cons rfl (by first | rfl | exact congrArg (Value.int _) (by omega)) (Sub.cons rfl (by first | rfl | (rw [List.length_append]; rfl)) (Sub.cons rfl rfl (Sub.cons rfl rfl (Sub.cons rfl rfl (Sub.nil _)))))))
    ·
     refine T_skip (hK9 _ _ (T_seq fun K11 hK11 => T_region (L_y (y_move rfl) rfl (L_y (y_add rfl rfl (i64w (by omega))) rfl (L_y (y_assign rfl) rfl (L_nil (hK11 _ _ (T_seq fun K12 hK12 => T_region (L_y (y_move rfl) rfl (L_y (y_nilp rfl) rfl (L_y (y_fieldA 3 Tryz.underlying113 rfl sz111 rfl rfl rfl) rfl ?_))))))))))); refine L_y (y_ldc Tryz.underlying111 rfl rfl (((S2.rdB hg).cell _).trans (by rfl))) rfl ?_; refine L_y (y_move rfl) rfl (L_y (y_idx Tryz.underlying111 sz3 rfl rfl (S2.rd hds) (Nt.mk (by omega) : Nt _ (j - 1)) (by omega)) rfl (L_y (y_ldr Tryz.underlying3 rfl rfl (S2.rd hds) (dep_get ho)) rfl (L_y (y_move rfl) rfl (L_y (y_lss rfl rfl) rfl (L_nil (hK12 _ _ ?_)))))); refine T_cond rfl (fun h44 => ?_) (fun h44 => ?_)
     ·
      refine T_region (L_y (y_move rfl) rfl (L_y (y_move rfl) rfl (L_o (o_bsl [_] te111 zz3 S2 rfl rfl rfl rfl rfl rfl rfl rfl fun b4 w4 S4 => L_o (o_app te111 S4 0 rfl rfl rfl (by first | exact S4.row 0 rfl | exact S4.row 1 rfl) (by first | exact bL_one _ | exact iL_one _ | (intro u hu; simp at hu; subst hu; rfl) | (simp; done) | (simp [Value.oneCell']; done)) rfl (by omega) (by omega) fun A5 c5 w5 S5 => ?_))))); have S5d := S5.drop (rs' := [_]) (.cons_cons _ (.cons _ (.refl _))); refine L_y (y_assign rfl) rfl (L_nil (hK8 _ _ (T_region (L_y (y_move rfl) rfl (L_y (y_sub rfl rfl (i64w (by omega))) rfl (L_y (y_assign rfl) rfl (L_nil ?_))))))); have S91 := S5d.rowc 0 rfl (n' := (out ++ [j - 1]).length) (xs' := nL (out ++ [j - 1])) (by rw [List.length_append]; rfl) (nL_snoc _ _ _ (by omega)); refine ⟨j - 1, seen + 1, out ++ [j - 1], _, _, by omega, ⟨⟨by omega, by (first | omega | (rw [List.length_append]; simp only [List.length_singleton]; omega)), by omega, by rw [← hcs, show j = j - 1 + 1 by omega, cand_yes (by omega) (by simpa using ho) (by rw [← hxk]; exact Classical.not_not.1 h33) (by simpa using h44)]; simp⟩, S91⟩, ?_⟩; exact (Sub.cons rfl (by first | rfl | exact congrArg (Value.int _) (by omega)) (Sub.cons rfl (by first | rfl | exact congrArg (Value.int _) (by omega)) (Sub.cons rfl (by first | rfl | (rw [List.length_append]; rfl)) (Sub.cons rfl rfl (Sub.cons rfl rfl (Sub.cons rfl rfl (Sub.nil _)))))))
     ·
      refine T_skip (hK8 _ _ (T_region (L_y (y_move rfl) rfl (L_y (y_sub rfl rfl (i64w (by omega))) rfl (L_y (y_assign rfl) rfl (L_nil (⟨j - 1, seen + 1, out, A5, c5, by omega, ⟨⟨by omega, by (first | omega | (rw [List.length_append]; simp only [List.length_singleton]; omega)), by omega, by rw [← hcs, show j = j - 1 + 1 by omega, cand_no (by omega) (by simpa using ho) (by rw [← hxk]; exact Classical.not_not.1 h33) (by simpa using h44)]; simp⟩, S2⟩, ?_⟩))))))); exact (Sub.cons rfl (by first | rfl | exact congrArg (Value.int _) (by omega)) (Sub.cons rfl (by first | rfl | exact congrArg (Value.int _) (by omega)) (Sub.cons rfl (by first | rfl | (rw [List.length_append]; rfl)) (Sub.cons rfl rfl (Sub.cons rfl rfl (Sub.cons rfl rfl (Sub.nil _)))))))
   ·
    refine T_exit (hK4 _ _ (T_seq fun K13 hK13 => T_region (L_y (y_move rfl) rfl (L_y (y_assign rfl) rfl (L_nil (hK13 _ _ (T_ret (ur (ret1 rfl rfl ?_))))))))); have hce : candF os kind chain j seen = [] := by first | exact cand_full (by omega) | (obtain rfl : j = 0 := (by omega); rfl)
    rw [hce, List.append_nil] at hcs; subst hcs; exact ⟨_, rfl, S2.like0, _, _, rfl, S2.own 0 rfl⟩
  ·
   refine L_gno rfl rfl rfl (L_gno rfl rfl rfl (L_y (y_pk rfl rfl) rfl (L_nil (hK7 _ _ (T_false rfl (T_exit (hK4 _ _ (T_seq fun K14 hK14 => T_region (L_y (y_move rfl) rfl (L_y (y_assign rfl) rfl (L_nil (hK14 _ _ ?_)))))))))))); refine T_ret (ur (ret1 rfl rfl ?_)); have hce : candF os kind chain j seen = [] := by first | exact cand_full (by omega) | (obtain rfl : j = 0 := (by omega); rfl)
   rw [hce, List.append_nil] at hcs; subst hcs; exact ⟨_, rfl, S2.like0, _, _, rfl, S2.own 0 rfl⟩
end Go.Proofs.YtgaklngnfecdaaaGreat.Pak
namespace Go.Proofs.YtgaklngnfecdaaaGreat.Zx
open Go.RowKit Zk
def apartL (rs : List Res) : Prop := rs.Pairwise fun r s => ∀ i, r.dom i → ¬ s.dom i
def sepL (rs : List Res) : Res where
  dom i := ∃ r ∈ rs, r.dom i
  holds w := (∀ r ∈ rs, r.holds w ∧ ∀ i, r.dom i → i < w.heap.size) ∧ apartL rs
  stable w w' h hh := ⟨fun r hr => ⟨r.stable w w' (fun i hi => h i ⟨r, hr, hi⟩) (hh.1 r hr).1, fun i hi => by
    have h1 := (hh.1 r hr).2 i hi
    have h2 := h i ⟨r, hr, hi⟩
    rw [Array.getElem?_eq_getElem h1] at h2
    exact (Array.getElem?_eq_some_iff.1 h2).1⟩, hh.2⟩
section
variable {w0 w w' : World} {M : Nat → Prop} {rs ps rs' : List Res}
theorem St.borrowL (h : (sepL rs).holds w) : St w (sepL rs).dom rs w :=
  ⟨rfl, rfl, rfl, Nat.le_refl _, fun _ _ _ => rfl, fun q hq => ⟨(h.1 q hq).1, fun i hi => ⟨(h.1 q hq).2 i hi, .inr ⟨q, hq, hi⟩⟩⟩, h.2⟩
theorem St.getL (S : St w0 M (ps ++ rs) w) : (sepL rs).holds w :=
  ⟨fun r hr => ⟨(S.res r (List.mem_append_right _ hr)).1, fun i hi => ((S.res r (List.mem_append_right _ hr)).2 i hi).1⟩, (List.pairwise_append.1 S.apart).2.1⟩
theorem St.turnedL {r0 : List Res} (S : St w0 (sepL r0).dom rs w) : Turned w0 w (sepL r0) (sepL rs) :=
  ⟨S.os, S.tape, S.output, S.size, S.old, St.getL (ps := []) S, fun i ⟨r, hr, hi⟩ => by
    have h := (S.res r hr).2 i hi
    rcases h.2 with h2 | h2
    · exact .inr ⟨h2, h.1⟩
    · exact .inl h2⟩
theorem St.turnL (S : St w0 M (ps ++ rs) w) (T : Turned w w' (sepL rs) (sepL rs')) : St w0 M (ps ++ rs') w' := by
  have hap := List.pairwise_append.1 S.apart
  refine ⟨T.os.trans S.os, T.tape.trans S.tape, T.output.trans S.output, Nat.le_trans S.size T.size, fun i hi hm => ?_, fun q hq => ?_, ?_⟩
  · rw [T.old i (Nat.lt_of_lt_of_le hi S.size) fun ⟨r, hr, hd⟩ => by
      rcases ((S.res r (List.mem_append_right _ hr)).2 i hd).2 with h | h
      · omega
      · exact hm h]
    exact S.old i hi hm
  · rcases List.mem_append.1 hq with hq | hq
    · have h := S.res q (List.mem_append_left _ hq)
      refine ⟨q.stable w w' (fun i hi => T.old i (h.2 i hi).1 fun ⟨r, hr, hd⟩ => hap.2.2 q hq r hr i hi hd) h.1, fun i hi => ⟨Nat.lt_of_lt_of_le (h.2 i hi).1 T.size, (h.2 i hi).2⟩⟩
    · have h := T.holds.1 q hq
      refine ⟨h.1, fun i hi => ⟨h.2 i hi, ?_⟩⟩
      rcases T.dom i ⟨q, hq, hi⟩ with ⟨r, hr, hd⟩ | h2
      · exact ((S.res r (List.mem_append_right _ hr)).2 i hd).2
      · exact .inl (Nat.le_trans S.size h2.1)
  · rw [List.pairwise_append]
    refine ⟨hap.1, T.holds.2, fun a ha b hb i hi hbi => ?_⟩
    rcases T.dom i ⟨b, hb, hbi⟩ with ⟨r, hr, hd⟩ | h2
    · exact hap.2.2 a ha r hr i hi hd
    · have := ((S.res a (List.mem_append_left _ ha)).2 i hi).1
      omega
theorem St.getAll (S : St w0 M rs w) : (sepL rs).holds w := St.getL (ps := []) S
end
end Go.Proofs.YtgaklngnfecdaaaGreat.Zx
namespace Go.Proofs.YtgaklngnfecdaaaGreat.Del
open Go.RowKit Zk Zx
theorem pmakeH (A B : Option Addr) (n c m d : Nat) (a t : List UInt8) (w0 : World) (ha : Rs w0 1 A n c (bL a)) (ht : Rs w0 1 B m d (bL t)) (hmx : n ≤ 4000) (hmt : m ≤ 4000) :
    Calls Tryz.prog 121 #[.slice A n c, .slice B m d] w0 fun e w' => ∃ u, e = .returned u ∧ Like w0 w' ∧ ∃ A' c' ops, ∃ R : Res, u = .tuple #[.agg (scA (n : Int) (m : Int) A' ops.length c'), .int .i64 0] ∧ R.holds w' ∧ (∀ i, R.dom i → w0.heap.size ≤ i ∧ i < w'.heap.size) ∧ (∀ W, R.holds W → Rs W 4 A' ops.length c' (ops.flatMap opf) ∧ OkO W ops) ∧ ops.map OP.v = mkV a t := by
 refine enter1 (env := [(0, .slice A n c), (1, .slice B m d)]) [.slice A n c, .slice B m d] Tryz.func121 rfl Tryz.ntmps121 rfl rfl ?_; have hn := ha.lenb; have hcap := ha.cap; have hmax := ha.max; have hmn := ht.lenb; have hcap2 := ht.cap; have hmax2 := ht.max; have S0 := St.start w0 noM; refine T_seq fun K1 hK1 => T_region (L_o (o_box1 rfl rfl S0 rfl fun b1 w1 hb1 S1 => L_o (o_alloc zz179 S1 rfl fun b2 w2 hb2 S2 => L_y (y_assign rfl) rfl (L_nil (hK1 _ _ (T_seq fun K2 hK2 => T_seq fun K3 hK3 => T_region (L_y (y_move rfl) rfl (L_y (y_len Tryz.underlying22 rfl) rfl (L_y (y_gtr rfl rfl) rfl (L_y (y_move rfl) rfl ?_)))))))))); refine L_split 16 rfl (fun h16 => ?_) (fun h16 => ?_)
 ·
  omega
 ·
  refine L_gyes rfl rfl (L_y (y_ldc Tryz.underlying22 rfl rfl (((S2.blk 0 rfl).cell _).trans (by rfl))) rfl ?_); refine L_gyes rfl rfl (L_y (y_len Tryz.underlying22 rfl) rfl (L_gyes rfl rfl (L_y (y_gtr rfl rfl) rfl (L_y (y_pk rfl rfl) rfl (L_nil (hK3 _ _ ?_)))))); refine T_cond rfl (fun h20 => ?_) (fun h20 => ?_)
  ·
   omega
  ·
   refine T_skip (hK2 _ _ (T_seq fun K4 hK4 => T_region (L_y (y_move rfl) rfl (L_y (y_len Tryz.underlying22 rfl) rfl (L_y (y_ldc Tryz.underlying22 rfl rfl (((S2.blk 0 rfl).cell _).trans (by rfl))) rfl ?_))))); refine L_y (y_len Tryz.underlying22 rfl) rfl (L_y (y_build rfl (show _ = some (scA (n : Int) (m : Int) none 0 0) by kernel_rfl)) rfl ?_); refine L_o (o_alloc zz179 S2 rfl fun b4 w4 hb4 S4 => L_o (o_stW S4 2 rfl rfl rfl sz179 rfl (scA_one _ _ _ _ _) fun w5 S5 => L_nil (hK4 _ _ (T_seq fun K5 hK5 => T_region (L_y (y_move rfl) rfl (L_o (o_call Tryz.func161 rfl rfl (places A n c a w5 (S5.rd ha) hmx) rfl rfl ?_))))))); rintro e6 w6 ⟨v6, rfl, l6, bm, pes, rfl, hpi, T6⟩; refine ⟨_, rfl, (have S6 := S5.adoptS T6; L_y (y_assign rfl) rfl (L_nil (hK5 _ _ (T_seq fun K6 hK6 => T_region (L_o (o_alloc zz3 S6 rfl fun b7 w7 hb7 S7 => L_o (o_st1 S7 5 rfl rfl rfl rfl sz3 (by first | (simp; done) | (show 0 < 1; decide)) fun w8 S8 => ?_)))))))⟩; refine L_nil (hK6 _ _ (T_seq fun K7 hK7 => T_region (L_y (y_makeFunc rfl rfl) rfl (L_y (y_assign rfl) rfl (L_nil (hK7 _ _ (T_seq fun K8 hK8 => T_seq fun K9 hK9 => T_region (L_y (y_assign rfl) rfl (L_nil (hK9 _ _ ?_)))))))))); refine T_block ?_; refine T_loop6 [(0, _), (3, _), (4, _), (6, _), (7, _), (8, _), (9, _)] (fun (k : Nat) (s0 : Nat) (A1 : Option Addr) (c1 : Nat) (ops : List OP) (ps : List Part) => [(10, .int .i64 (k : Int))]) (fun (k : Nat) (s0 : Nat) (A1 : Option Addr) (c1 : Nat) (ops : List OP) (ps : List Part) => m - k) (fun (k : Nat) (s0 : Nat) (A1 : Option Addr) (c1 : Nat) (ops : List OP) (ps : List Part) (w : World) => (k ≤ m ∧ s0 ≤ k ∧ ops.length ≤ 2 * k ∧ InP ops ps ∧ MKI a t k s0 ops) ∧ St w0 noM ([blk b1 22 #[.slice B m d], blk b2 179 #[.int .i64 0, .int .i64 0, .slice none 0 0], mapB 6 bm (pes.map PE.ent), fam (pes.map PE.row), blk b7 3 #[.int .i64 (s0 : Int)]] ++ [blk b4 179 (scA (n : Int) (m : Int) A1 ops.length c1), row 221 4 A1 ops.length c1 (ops.flatMap opf), fam (ps.map partR)]) w) 0 0 none 0 [] [] (Sub.cons rfl (by first | rfl | exact congrArg (Value.int _) (by omega)) (Sub.nil _)) (Sub.cons rfl rfl (Sub.cons rfl rfl (Sub.cons rfl rfl (Sub.cons rfl rfl (Sub.cons rfl rfl (Sub.cons rfl rfl (Sub.cons rfl rfl (Sub.nil _)))))))) ?_ ?_
   ·
    have S9 := ((S8.nilrow 221 4).fam0).sel [0, 1, 3, 4, 5, 2, 6, 7] (by decide); exact ⟨⟨Nat.zero_le _, Nat.le_refl _, Nat.le_refl _, (fun o ho => (List.not_mem_nil ho).elim), MKI.start a t⟩, S9⟩
   ·
    intro k s0 A1 c1 ops ps w9 hrel; obtain ⟨⟨hk, hsk, hol, hin, hmk⟩, S9⟩ := hrel; refine T_seq fun K10 hK10 => T_seq fun K11 hK11 => T_region (L_y (y_move rfl) rfl (L_y (y_ldc Tryz.underlying22 rfl rfl (((S9.blk 0 rfl).cell _).trans (by rfl))) rfl ?_)); refine L_y (y_len Tryz.underlying22 rfl) rfl (L_y (y_lss rfl rfl) rfl (L_nil (hK11 _ _ ?_))); refine T_cond rfl (fun h33 => ?_) (fun h33 => ?_)
    ·
     have hbd := bst_bd a (t.drop k); rw [List.length_drop] at hbd; refine T_skip (hK10 _ _ (T_block (T_seq fun K12 hK12 => T_region (L_y (y_move rfl) rfl (L_y (y_move rfl) rfl (L_y (y_ldc Tryz.underlying22 rfl rfl (((S9.blk 0 rfl).cell _).trans (by rfl))) rfl ?_)))))); refine L_y (y_move rfl) rfl (L_y (y_sliceL Tryz.underlying22 sz5 rfl rfl (Nt.mk (by omega) : Nt _ (k)) (by omega)) rfl (L_o (o_call Tryz.func163 rfl rfl (longest A (cutA B d k 1) n c (m - k) (d - k) bm a (t.drop k) pes w9 (S9.rd ha) (cut_tail (S9.rd ht) (by omega)) hmx (by omega) (S9.get 2 rfl) (S9.lt 2 rfl) (S9.get 3 rfl) hpi) rfl rfl ?_))); rintro e10 w10 ⟨v10, rfl, l10, rfl⟩; refine ⟨_, rfl, (have S10 := S9.like l10; L_y (y_move rfl) rfl (L_y (y_extract rfl rfl) rfl (L_y (y_extract rfl rfl) rfl (L_y (y_assign rfl) rfl (L_y (y_assign rfl) rfl (L_nil (hK12 _ _ (T_seq fun K13 hK13 => T_seq fun K14 hK14 => T_region (L_y (y_move rfl) rfl (L_y (y_eql rfl rfl) rfl ?_))))))))))⟩; refine L_nil (hK14 _ _ ?_); refine T_cond rfl (fun h44 => ?_) (fun h44 => ?_)
     ·
      refine T_seq fun K15 hK15 => T_region (L_y (y_move rfl) rfl (L_y (y_add rfl rfl (i64w (by omega))) rfl (L_y (y_assign rfl) rfl (L_nil (hK15 _ _ (T_exit (⟨k + 1, s0, A1, c1, ops, ps, by omega, ⟨⟨by omega, by omega, by omega, hin, hmk.zero (by omega) (by omega)⟩, S10⟩, ?_⟩))))))); exact (Sub.cons rfl (by first | rfl | exact congrArg (Value.int _) (by omega)) (Sub.cons rfl rfl (Sub.cons rfl rfl (Sub.cons rfl rfl (Sub.cons rfl rfl (Sub.cons rfl rfl (Sub.cons rfl rfl (Sub.cons rfl rfl (Sub.nil _)))))))))
     ·
      refine T_skip (hK13 _ _ (T_seq fun K16 hK16 => T_region (L_y (y_move rfl) rfl (L_y (y_move rfl) rfl (L_o (o_callv rfl Tryz.func162 rfl rfl (flush k s0 b7 b4 b1 (n : Int) (m : Int) A1 B c1 m d ops ps t w10 (holdScr S10).1 (holdScr S10).2.1 (S10.blk 4 rfl) ((holdScr S10).2.2.1 (blk b7 3 #[.int .i64 (s0 : Int)]) (by simp) b7 rfl) (S10.blk 0 rfl) ((holdScr S10).2.2.1 (blk b1 22 #[.slice B m d]) (by simp) b1 rfl) (S10.rd ht) (fun ad h1 h2 => (holdScr S10).2.2.2 ad.block (old_block ht h1 h2) (fun h => h)) hmt (by omega) hin (by omega)) rfl rfl (fun d' hd => by cases hd <;> rfl) ?_)))))); rintro e11 w11 ⟨v11, rfl, A2, c2, ops2, ps2, hov, hol2, hin2, T11⟩; refine ⟨_, rfl, (have S11 := flushScr S10 T11; have hrc2 := (S11.row 6 rfl).cap; have hrm2 := (S11.row 6 rfl).max; L_nil (hK16 _ _ (T_seq fun K17 hK17 => T_region (L_y (y_fieldA 2 Tryz.underlying179 rfl sz177 rfl rfl rfl) rfl (L_y (y_ldc Tryz.underlying177 rfl rfl (((S11.blk 5 rfl).cell _).trans (by rfl))) rfl ?_)))))⟩; refine L_y (y_move rfl) rfl (L_y (y_move rfl) rfl (L_y (y_build rfl (show _ = some #[Value.bool true, Value.int .i64 ((bst a (t.drop k)).1 : Int), Value.int .i64 ((bst a (t.drop k)).2 : Int), Value.slice none 0 0] by kernel_rfl)) rfl ?_)); refine L_o (o_bsl [_, _, _, _] te177 zz221 S11 rfl rfl rfl rfl rfl rfl rfl rfl fun b12 w12 S12 => L_o (o_app te177 S12 6 rfl rfl rfl (by first | exact S12.row 6 rfl | exact S12.fix 7 rfl | exact S12.row 8 rfl) (fun u hu => opf_one ⟨true, _, _, p0⟩ u hu) rfl (by omega) (by omega) fun A13 c13 w13 S13 => ?_)); have S13d := S13.drop (rs' := [_, _, _, _, _, _, _, _]) (.cons_cons _ (.cons_cons _ (.cons_cons _ (.cons_cons _ (.cons_cons _ (.cons_cons _ (.cons_cons _ (.cons_cons _ (.cons _ (.refl _)))))))))); refine L_y (y_fieldA 2 Tryz.underlying179 rfl sz177 rfl rfl rfl) rfl (L_o (o_st1 S13d 5 rfl rfl rfl rfl sz177 (by show 2 < 3; decide) fun w14 S14 => ?_)); refine L_nil (hK17 _ _ (T_seq fun K18 hK18 => T_region (L_y (y_move rfl) rfl (L_y (y_move rfl) rfl (L_y (y_add rfl rfl (i64w (by omega))) rfl (L_y (y_assign rfl) rfl (L_nil (hK18 _ _ (T_region (L_y (y_move rfl) rfl (L_o (o_st1 S14 4 rfl rfl rfl rfl sz3 (by first | (simp; done) | (show 0 < 1; decide)) fun w15 S15 => ?_)))))))))))); refine L_nil ?_; have S91 := S15.blkc 5 rfl ((scA_set (n : Int) (m : Int) A2 ops2.length c2 A13 (ops2.length + 1) c13).trans (show _ = scA (n : Int) (m : Int) A13 (ops2 ++ [(⟨true, ((bst a (t.drop k)).1 : Int), ((bst a (t.drop k)).2 : Int), p0⟩ : OP)]).length c13 from by rw [List.length_append]; rfl)); have S92 := S91.blkc 4 rfl (show _ = #[Value.int .i64 ((k + (bst a (t.drop k)).2 : Nat) : Int)] from by simp); have S93 := S92.rowc 6 rfl (n' := (ops2 ++ [(⟨true, ((bst a (t.drop k)).1 : Int), ((bst a (t.drop k)).2 : Int), p0⟩ : OP)]).length) (xs' := (ops2 ++ [(⟨true, ((bst a (t.drop k)).1 : Int), ((bst a (t.drop k)).2 : Int), p0⟩ : OP)]).flatMap opf) (by rw [List.length_append]; rfl) (by rw [List.flatMap_append]; rfl); refine ⟨k + (bst a (t.drop k)).2, k + (bst a (t.drop k)).2, A13, c13, ops2 ++ [(⟨true, ((bst a (t.drop k)).1 : Int), ((bst a (t.drop k)).2 : Int), p0⟩ : OP)], ps2, by omega, ⟨⟨by omega, Nat.le_refl _, by rw [List.length_append, List.length_singleton]; omega, hin2.add0 rfl, hmk.copy (by omega) (by omega) (by rw [List.map_append, hov]; rfl)⟩, S93⟩, ?_⟩
      exact (Sub.cons rfl (by first | rfl | exact congrArg (Value.int _) (by omega)) (Sub.cons rfl rfl (Sub.cons rfl rfl (Sub.cons rfl rfl (Sub.cons rfl rfl (Sub.cons rfl rfl (Sub.cons rfl rfl (Sub.cons rfl rfl (Sub.nil _)))))))))
    ·
     refine T_exit (hK8 _ _ (T_seq fun K19 hK19 => T_region (L_y (y_move rfl) rfl (L_y (y_ldc Tryz.underlying22 rfl rfl (((S9.blk 0 rfl).cell _).trans (by rfl))) rfl ?_)))); refine L_y (y_len Tryz.underlying22 rfl) rfl (L_o (o_callv rfl Tryz.func162 rfl rfl (flush m s0 b7 b4 b1 (n : Int) (m : Int) A1 B c1 m d ops ps t w9 (holdScr S9).1 (holdScr S9).2.1 (S9.blk 4 rfl) ((holdScr S9).2.2.1 (blk b7 3 #[.int .i64 (s0 : Int)]) (by simp) b7 rfl) (S9.blk 0 rfl) ((holdScr S9).2.2.1 (blk b1 22 #[.slice B m d]) (by simp) b1 rfl) (S9.rd ht) (fun ad h1 h2 => (holdScr S9).2.2.2 ad.block (old_block ht h1 h2) (fun h => h)) hmt (by omega) hin (by omega)) rfl rfl (fun d' hd => by cases hd <;> rfl) ?_)); rintro e16 w16 ⟨v16, rfl, A2, c2, ops2, ps2, hov, hol2, hin2, T16⟩; refine ⟨_, rfl, (have S16 := flushScr S9 T16; L_nil (hK19 _ _ (T_seq fun K20 hK20 => T_region (L_y (y_ldW Tryz.underlying179 rfl sz179 rfl (S16.blk 5 rfl) (show _ = (scA (n : Int) (m : Int) A2 ops2.length c2).toList ∧ _ from ⟨rfl, rfl⟩)) rfl (L_o (o_stW S16 1 rfl rfl rfl sz179 rfl (scA_one _ _ _ _ _) fun w17 S17 => L_y (y_assign rfl) rfl (L_nil (hK20 _ _ (T_ret (ur (retct rfl rfl rfl (S17.blk 1 rfl) Tryz.underlying179 rfl (by exact sz179) ?_)))))))))))⟩; have S18 : Zx.St w0 noM [row 221 4 A2 ops2.length c2 (ops2.flatMap opf), fam (ps2.map partR)] w17 := S17.sel [6, 7] (by decide); exact ⟨_, rfl, S17.like0, A2, c2, ops2, sepL [row 221 4 A2 ops2.length c2 (ops2.flatMap opf), fam (ps2.map partR)], rfl, S18.getAll, (fun i hi => by obtain ⟨r, hr, hd⟩ := hi; have h := (S18.res r hr).2 i hd; exact ⟨h.2.resolve_right (fun q => q), h.1⟩), (fun W h => ⟨rs_of_row (h.1 (row 221 4 A2 ops2.length c2 (ops2.flatMap opf)) (List.mem_cons_self ..)).1, okO_of hin2 (h.1 (fam (ps2.map partR)) (List.mem_cons_of_mem _ (List.mem_cons_self ..))).1⟩), hmk.done (by omega) (by rw [hmn]; exact hov)⟩
end Go.Proofs.YtgaklngnfecdaaaGreat.Del
namespace Go.Proofs.YtgaklngnfecdaaaGreat.Pak
open Go.RowKit Zk Zx
open Sha (N xorN andN notN N_ge N_le)
open Go.Proofs.YtgaklngnfecdaaaGreat.Obj (objE objB nameI nameI_len nameI_ok nameI_no zB zB_len rs_tail)
open Oct (vaN rwL rwP rwE rnL rnP rnE be vr tl length_tl)
open Del (scA opf OP OkO mkV encV putR readV aplR)
open Del (nL nL_app)
structure QOk (w0 w : World) (p : Part) (r : Int × List UInt8) (q : Part) : Prop where
  ok : q.ok w
  val : q.l = r.2
  src : (r.1 = -1 ∧ q = p) ∨ (0 ≤ r.1 ∧ ∀ ad, 0 < q.n → q.A = some ad → w0.heap.size ≤ ad.block)
theorem QOk.like {w0 w w' : World} {p : Part} {r : Int × List UInt8} {q : Part} (h : QOk w0 w p r q) (l : Like w w') : QOk w0 w' p r q := ⟨Rs.like h.ok l, h.val, h.src⟩
theorem sh_next {os : List Ob} {x : List UInt8} {ks : List Nat} {i k : Nat} {r : Int × List UInt8} (hk : ks[i]? = some k) : shF os x (ks.take (i + 1)) r = stepS os x (shF os x (ks.take i) r) k := by
  unfold shF
  rw [List.take_add_one, hk, List.foldl_append]
  rfl
def ShortV (w0 w' : World) (p : Part) (r : Int × List UInt8) (u : Value) : Prop := ∃ q : Part, u = .tuple #[.int .i64 r.1, pv q] ∧ QOk w0 w' p r q
theorem shortest (g : Nat) (x0 x2 : Value) (A1 : Option Addr) (n1 c1 : Nat) (A3 : Option Addr) (n3 c3 : Nat) (its : List It) (os : List Ob) (kind chain : Int) (p : Part) (w0 : World) (hg : Blk w0 g 113 #[x0, .slice A1 n1 c1, x2, .slice A3 n3 c3]) (hits : Rs w0 2 A1 n1 c1 (its.flatMap itf)) (hds : Rs w0 1 A3 n3 c3 (os.map depV)) (hio : Same its os) (hn9 : n1 ≤ 100000) (hok : OkI w0 its) (hsm : ∀ x ∈ its, x.p.n ≤ 300) (hp : p.ok w0) (hp3 : p.n ≤ 300) :
    Calls Tryz.prog 90 #[.pointer (some ⟨g, 0, none⟩), .agg #[.int .i64 kind, pv p], .int .i64 chain] w0 fun e w' => ∃ u, e = .returned u ∧ Like w0 w' ∧ ShortV w0 w' p (toldV os chain kind p.l) u := by
 refine enter1 (env := [(0, .pointer (some ⟨g, 0, none⟩)), (1, .agg #[.int .i64 kind, pv p]), (2, .int .i64 chain)]) [.pointer (some ⟨g, 0, none⟩), .agg #[.int .i64 kind, pv p], .int .i64 chain] Tryz.func90 rfl Tryz.ntmps90 rfl rfl ?_; have hn1 := its_len hits; have hsl := hio.len; have hn3 := hds.len; rw [List.length_map] at hn3; have hcap1 := hits.cap; have hcap3 := hds.cap; have hmax1 := hits.max; have hmax3 := hds.max; have S0 := St.start w0 noM; refine T_seq fun K1 hK1 => T_region (L_o (o_box rfl S0 rfl fun b1 w1 hb1 S1 => L_y (y_assign rfl) rfl (L_y (y_assign rfl) rfl (L_nil (hK1 _ _ (T_seq fun K2 hK2 => T_drawnL [(0, true), (1, true), (2, true), (3, true)] hmix (by kernel_rfl) fun w2 l2 => have S2 := S1.like l2; DL_y rfl (y_fieldA 1 Tryz.underlying65 rfl sz22 rfl rfl rfl) rfl (DL_y rfl (y_ldc Tryz.underlying22 rfl rfl (((S2.blk 0 rfl).cell _).trans (by rfl))) rfl ?_))))))); refine DL_y rfl (y_assign rfl) rfl (DL_y rfl (y_assign rfl) rfl (DL_nil (hK2 _ _ (T_seq fun K3 hK3 => T_seq fun K4 hK4 => T_region (L_y (y_move rfl) rfl (L_y (y_fieldA 0 Tryz.underlying65 rfl sz3 rfl rfl rfl) rfl (L_y (y_ldc Tryz.underlying3 rfl rfl (((S2.blk 0 rfl).cell _).trans (by rfl))) rfl ?_))))))); refine L_y (y_move rfl) rfl (L_o (o_call Tryz.func120 rfl rfl (candidates g x0 x2 A1 n1 c1 A3 n3 c3 its os kind chain w2 (S2.rdB hg) (S2.rd hits) (S2.rd hds) hio (by omega)) rfl rfl ?_)); rintro e3 w3 ⟨v3, rfl, l3, A3, c3, rfl, O3⟩; refine ⟨_, rfl, (have S3 := S2.adopt l3 O3; have hc0 := S3.row 1 rfl; have hlk0 : Like w0 w3 := S3.like0; L_y (y_len Tryz.underlying111 rfl) rfl (L_y (y_move rfl) rfl (L_nil (hK4 _ _ (T_block ?_)))))⟩; refine T_loop3 [(0, _), (4, _), (22, _), (23, _)] (fun (i : Nat) (r : Int × List UInt8) (q : Part) => [(24, .int .i64 (i : Int)), (8, .int .i64 r.1), (9, pv q)]) (fun (i : Nat) (r : Int × List UInt8) (q : Part) => (candF os kind chain os.length 0).length - i) (fun (i : Nat) (r : Int × List UInt8) (q : Part) (w : World) => (i ≤ (candF os kind chain os.length 0).length ∧ r = (shF os p.l ((candF os kind chain os.length 0).take i) (-1, p.l))) ∧ Like w0 w ∧ Rs w 1 A3 (candF os kind chain os.length 0).length c3 (nL (candF os kind chain os.length 0)) ∧ QOk w0 w p r q ∧ Blk w b1 65 #[.int .i64 kind, pv p]) 0 (-1, p.l) p (Sub.cons rfl (by first | rfl | exact congrArg (Value.int _) (by omega)) (Sub.cons rfl (by first | rfl | exact congrArg (Value.int _) (by omega)) (Sub.cons rfl (by first | rfl | exact congrArg (Value.int _) (by omega)) (Sub.nil _)))) (Sub.cons rfl rfl (Sub.cons rfl rfl (Sub.cons rfl rfl (Sub.cons rfl rfl (Sub.nil _))))) ?_ ?_
 ·
  exact ⟨⟨by omega, rfl⟩, hlk0, hc0, ⟨S3.rd hp, rfl, .inl ⟨rfl, rfl⟩⟩, S3.blk 0 rfl⟩
 ·
  intro i r q w4 hrel; obtain ⟨⟨hi, hr⟩, hlk, hc, hq, hb1⟩ := hrel; subst hr; have S4 := St.start w4 noM; have hsz1 := hlk.size; refine T_seq fun K5 hK5 => T_region (L_y (y_lss rfl rfl) rfl (L_nil (hK5 _ _ (T_seq fun K6 hK6 => ?_)))); refine T_cond rfl (fun h25 => ?_) (fun h25 => ?_)
  ·
   obtain ⟨k, hk⟩ : ∃ k, (candF os kind chain os.length 0)[i]? = some k := ⟨_, List.getElem?_eq_getElem (by omega)⟩; obtain ⟨hko, o, ho, _, _⟩ := cand_lt _ _ k (List.mem_of_getElem? hk); obtain ⟨x, hx, hxk, hxl⟩ := hio.at ho; have hxo : x.p.ok w0 := hok.at hx; have hxs := hsm x (List.mem_of_getElem? hx); have hcc := hc.cap; have hcm := hc.max; have hxb := hxo.lenb; have hpb := hp.lenb; have hql := hq.ok.lenb; refine T_skip (hK6 _ _ (T_seq fun K7 hK7 => T_block (T_seq fun K8 hK8 => T_region (L_y (y_idx Tryz.underlying111 sz3 rfl rfl (S4.rd hc) inferInstance (by omega)) rfl (L_y (y_ldr Tryz.underlying3 rfl rfl (S4.rd hc) (nL_get hk)) rfl (L_y (y_assign rfl) rfl (L_nil (hK8 _ _ (T_seq fun K9 hK9 => T_drawnX (fun w => Like w4 w) hmix (by kernel_rfl) (fun w l => (S4.like l).like0) fun w5 l5 => ?_))))))))); have S5 := S4.like l5; refine DX_y 0 (by kernel_rfl) rfl (y_move rfl) rfl (DX_y 1 (by kernel_rfl) rfl (y_nilp rfl) rfl (DX_y 2 (by kernel_rfl) rfl (y_fieldA 1 Tryz.underlying113 rfl sz48 rfl rfl rfl) rfl (DX_y 3 (by kernel_rfl) rfl (y_of fun w hw => y_ldc Tryz.underlying48 rfl rfl (((hg.below (hlk.trans hw) hg.lt).cell _).trans (by rfl))) rfl ?_))); refine DX_y 4 (by kernel_rfl) rfl (y_move rfl) rfl (DX_y 5 (by kernel_rfl) rfl (y_idx Tryz.underlying48 sz65 rfl rfl (hits.like (hlk.trans S5.like0)) inferInstance (by omega)) rfl (DX_y 6 (by kernel_rfl) rfl (y_fieldR 1 Tryz.underlying65 rfl sz22 rfl rfl (hits.like (hlk.trans S5.like0)) (by omega) rfl) rfl (DX_y 7 (by kernel_rfl) rfl (y_of fun w hw => y_ldf Tryz.underlying22 rfl rfl (hits.like (hlk.trans hw)) (by omega) ((flat_at itf 2 itf_len its k x hx 1 (by omega)).trans (by rfl))) rfl ?_))); refine DX_y 8 (by kernel_rfl) rfl (y_fieldA 1 Tryz.underlying65 rfl sz22 rfl rfl rfl) rfl (DX_y 9 (by kernel_rfl) rfl (y_of fun w hw => y_ldc Tryz.underlying22 rfl rfl (((hb1.below hw hb1.lt).cell _).trans (by rfl))) rfl ?_); refine DX_o2 10 14 (by kernel_rfl) rfl rfl ?_ ?_
   ·
    refine o_call Tryz.func121 rfl rfl (Del.pmakeH _ _ _ _ _ _ x.p.l p.l w5 (Rs.like hxo (hlk.trans S5.like0)) (Rs.like hp (hlk.trans S5.like0)) (by omega) (by omega)) rfl rfl ?_; rintro e6 w6 ⟨v6, rfl, l6, A6, c6, ops6, R6, rfl, hh6, dd6, hr6, hv6⟩; refine ⟨_, rfl, (have S6 := S5.new l6 _ hh6 dd6; ⟨S6.like0, (DX_y 11 (by kernel_rfl) rfl (y_move rfl) rfl (DX_y 12 (by kernel_rfl) rfl (y_extract rfl rfl) rfl (DX_y 13 (by kernel_rfl) rfl (y_extract rfl rfl) rfl (DX_o1 14 (by kernel_rfl) rfl (o_alloc zz179 S6 rfl fun b7 w7 hb7 S7 => ⟨S7.like0, (DX_o1 15 (by kernel_rfl) rfl (o_stW S7 1 rfl rfl rfl sz179 (by rfl) (by intro u hu; simp [scA] at hu; rcases hu with rfl | rfl | rfl <;> rfl) fun w8 S8 => ?_))⟩)))))⟩)⟩; refine ⟨S8.like0, (DX_y 16 (by kernel_rfl) rfl (y_assign rfl) rfl (DX_nil (by kernel_rfl) (hK9 _ _ (T_seq fun K10 hK10 => T_seq fun K11 hK11 => T_region (L_y (y_move rfl) rfl (L_y (y_neq rfl rfl) rfl (L_nil (hK11 _ _ ?_))))))))⟩; refine T_cond rfl (fun h43 => ?_) (fun h43 => ?_)
    ·
     exact absurd rfl h43
    ·
     refine T_skip (hK10 _ _ (T_seq fun K12 hK12 => T_region (L_y (y_ldW Tryz.underlying179 rfl sz179 rfl (S8.blk 1 rfl) (show _ = (scA (x.p.n : Int) (p.n : Int) _ _ _).toList ∧ _ from ⟨rfl, rfl⟩)) rfl (L_o (o_call Tryz.func122 rfl rfl (Del.pputM (x := x.p.l) (y := p.l) (by omega) (by omega) A6 c6 ops6 _ _ w8 (hr6 _ (S8.get 0 rfl)).1 (hr6 _ (S8.get 0 rfl)).2 hv6 (by omega) (by omega)) rfl rfl ?_))))); rintro e9 w9 ⟨v9, rfl, l9, A9, c9, rfl, O9⟩; refine ⟨_, rfl, (have S9 := S8.adopt l9 O9; have hlk3 : Like w4 w9 := S9.like0; have hd9 : Rs w9 1 A9 (scB x.p.l p.l).length c9 (bL (scB x.p.l p.l)) := S9.row 2 rfl; have hf9 := (Fr.of_own (S9.own 2 rfl)).2; have hb4 := hb1.below hlk3 hb1.lt; have hlk4 := hlk.trans hlk3; have hc4 := hc.like hlk3; have hq4 := hq.like hlk3; have hsz9 := hlk.size; L_y (y_move rfl) rfl (L_y (y_extract rfl rfl) rfl (L_y (y_extract rfl rfl) rfl (L_y (y_assign rfl) rfl ?_))))⟩; refine L_y (y_assign rfl) rfl (L_nil (hK12 _ _ (T_seq fun K13 hK13 => T_region (L_y (y_move rfl) rfl (L_y (y_eql rfl rfl) rfl (L_y (y_move rfl) rfl ?_)))))); refine L_split 51 rfl (fun h51 => ?_) (fun h51 => ?_)
     ·
      refine L_gyes rfl rfl (L_y (y_move rfl) rfl (L_gyes rfl rfl (L_y (y_len Tryz.underlying22 rfl) rfl (L_gyes rfl rfl (L_y (y_move rfl) rfl (L_gyes rfl rfl (L_y (y_len Tryz.underlying22 rfl) rfl (L_gyes rfl rfl (L_y (y_lss rfl rfl) rfl (L_y (y_pk rfl rfl) rfl (L_nil (hK13 _ _ ?_)))))))))))); refine T_cond rfl (fun h57 => ?_) (fun h57 => ?_)
      ·
       have hlen := h57; refine T_region (L_y (y_move rfl) rfl (L_y (y_move rfl) rfl (L_y (y_assign rfl) rfl (L_y (y_assign rfl) rfl (L_nil (hK7 _ _ (T_region (L_y (y_add rfl rfl (i64w (by omega))) rfl (L_y (y_move rfl) rfl (L_nil ?_)))))))))); have hst : shF os p.l ((candF os kind chain os.length 0).take (i + 1)) (-1, p.l) = ((k : Int), scB x.p.l p.l) := by rw [sh_next hk, hxl]; exact step_yes ho (by rw [← hq.val, hq.ok.lenb]; rw [hxl] at hlen; first | exact Int.ofNat_lt.1 hlen | exact fun h => hlen (Int.ofNat_lt.2 h))
       have hqn2 : QOk w0 w9 p ((k : Int), scB x.p.l p.l) ⟨A9, (scB x.p.l p.l).length, c9, scB x.p.l p.l⟩ := ⟨hd9, rfl, .inr ⟨by show (0 : Int) ≤ (k : Int); omega, fun ad h1 h2 => Nat.le_trans hsz9 (hf9 ad h1 h2)⟩⟩; refine ⟨i + 1, _, ⟨A9, (scB x.p.l p.l).length, c9, scB x.p.l p.l⟩, by omega, ⟨⟨by omega, hst.symm⟩, hlk4, hc4, hqn2, hb4⟩, ?_⟩; exact (Sub.cons rfl (by first | rfl | exact congrArg (Value.int _) (by omega)) (Sub.cons rfl (by first | rfl | exact congrArg (Value.int _) (by omega)) (Sub.cons rfl (by first | rfl | exact congrArg (Value.int _) (by omega)) (Sub.cons rfl rfl (Sub.cons rfl rfl (Sub.cons rfl rfl (Sub.cons rfl rfl (Sub.nil _))))))))
      ·
       have hlen := h57; refine T_skip (hK7 _ _ (T_region (L_y (y_add rfl rfl (i64w (by omega))) rfl (L_y (y_move rfl) rfl (L_nil ?_))))); have hst : shF os p.l ((candF os kind chain os.length 0).take (i + 1)) (-1, p.l) = (shF os p.l ((candF os kind chain os.length 0).take i) (-1, p.l)) := by rw [sh_next hk]; exact step_no ho (by rw [← hq.val, hq.ok.lenb]; rw [hxl] at hlen; first | exact Int.ofNat_lt.1 hlen | exact fun h => hlen (Int.ofNat_lt.2 h))
       have hqn2 := hq4; refine ⟨i + 1, _, q, by omega, ⟨⟨by omega, hst.symm⟩, hlk4, hc4, hqn2, hb4⟩, ?_⟩; exact (Sub.cons rfl (by first | rfl | exact congrArg (Value.int _) (by omega)) (Sub.cons rfl (by first | rfl | exact congrArg (Value.int _) (by omega)) (Sub.cons rfl (by first | rfl | exact congrArg (Value.int _) (by omega)) (Sub.cons rfl rfl (Sub.cons rfl rfl (Sub.cons rfl rfl (Sub.cons rfl rfl (Sub.nil _))))))))
     ·
      exact absurd rfl h51
   ·
    refine o_alloc zz179 S5 rfl fun b11 w11 hb11 S11 => ⟨S11.like0, (DX_o1 10 (by kernel_rfl) rfl (o_call Tryz.func121 rfl rfl (Del.pmakeH _ _ _ _ _ _ x.p.l p.l w11 (Rs.like hxo (hlk.trans S11.like0)) (Rs.like hp (hlk.trans S11.like0)) (by omega) (by omega)) rfl rfl ?_))⟩; rintro e12 w12 ⟨v12, rfl, l12, A12, c12, ops12, R12, rfl, hh12, dd12, hr12, hv12⟩; refine ⟨_, rfl, (have S12 := S11.new l12 _ hh12 dd12; ⟨S12.like0, (DX_y 11 (by kernel_rfl) rfl (y_move rfl) rfl (DX_y 12 (by kernel_rfl) rfl (y_extract rfl rfl) rfl (DX_y 13 (by kernel_rfl) rfl (y_extract rfl rfl) rfl (DX_o1 15 (by kernel_rfl) rfl (o_stW S12 0 rfl rfl rfl sz179 (by rfl) (by intro u hu; simp [scA] at hu; rcases hu with rfl | rfl | rfl <;> rfl) fun w13 S13 => ?_)))))⟩)⟩; refine ⟨S13.like0, (DX_y 16 (by kernel_rfl) rfl (y_assign rfl) rfl (DX_nil (by kernel_rfl) (hK9 _ _ (T_seq fun K14 hK14 => T_seq fun K15 hK15 => T_region (L_y (y_move rfl) rfl (L_y (y_neq rfl rfl) rfl (L_nil (hK15 _ _ ?_))))))))⟩; refine T_cond rfl (fun h43 => ?_) (fun h43 => ?_)
    ·
     exact absurd rfl h43
    ·
     refine T_skip (hK14 _ _ (T_seq fun K16 hK16 => T_region (L_y (y_ldW Tryz.underlying179 rfl sz179 rfl (S13.blk 0 rfl) (show _ = (scA (x.p.n : Int) (p.n : Int) _ _ _).toList ∧ _ from ⟨rfl, rfl⟩)) rfl (L_o (o_call Tryz.func122 rfl rfl (Del.pputM (x := x.p.l) (y := p.l) (by omega) (by omega) A12 c12 ops12 _ _ w13 (hr12 _ (S13.get 1 rfl)).1 (hr12 _ (S13.get 1 rfl)).2 hv12 (by omega) (by omega)) rfl rfl ?_))))); rintro e14 w14 ⟨v14, rfl, l14, A14, c14, rfl, O14⟩; refine ⟨_, rfl, (have S14 := S13.adopt l14 O14; have hlk3 : Like w4 w14 := S14.like0; have hd9 : Rs w14 1 A14 (scB x.p.l p.l).length c14 (bL (scB x.p.l p.l)) := S14.row 2 rfl; have hf9 := (Fr.of_own (S14.own 2 rfl)).2; have hb4 := hb1.below hlk3 hb1.lt; have hlk4 := hlk.trans hlk3; have hc4 := hc.like hlk3; have hq4 := hq.like hlk3; have hsz9 := hlk.size; L_y (y_move rfl) rfl (L_y (y_extract rfl rfl) rfl (L_y (y_extract rfl rfl) rfl (L_y (y_assign rfl) rfl ?_))))⟩; refine L_y (y_assign rfl) rfl (L_nil (hK16 _ _ (T_seq fun K17 hK17 => T_region (L_y (y_move rfl) rfl (L_y (y_eql rfl rfl) rfl (L_y (y_move rfl) rfl ?_)))))); refine L_split 51 rfl (fun h51 => ?_) (fun h51 => ?_)
     ·
      refine L_gyes rfl rfl (L_y (y_move rfl) rfl (L_gyes rfl rfl (L_y (y_len Tryz.underlying22 rfl) rfl (L_gyes rfl rfl (L_y (y_move rfl) rfl (L_gyes rfl rfl (L_y (y_len Tryz.underlying22 rfl) rfl (L_gyes rfl rfl (L_y (y_lss rfl rfl) rfl (L_y (y_pk rfl rfl) rfl (L_nil (hK17 _ _ ?_)))))))))))); refine T_cond rfl (fun h57 => ?_) (fun h57 => ?_)
      ·
       have hlen := h57; refine T_region (L_y (y_move rfl) rfl (L_y (y_move rfl) rfl (L_y (y_assign rfl) rfl (L_y (y_assign rfl) rfl (L_nil (hK7 _ _ (T_region (L_y (y_add rfl rfl (i64w (by omega))) rfl (L_y (y_move rfl) rfl (L_nil ?_)))))))))); have hst : shF os p.l ((candF os kind chain os.length 0).take (i + 1)) (-1, p.l) = ((k : Int), scB x.p.l p.l) := by rw [sh_next hk, hxl]; exact step_yes ho (by rw [← hq.val, hq.ok.lenb]; rw [hxl] at hlen; first | exact Int.ofNat_lt.1 hlen | exact fun h => hlen (Int.ofNat_lt.2 h))
       have hqn2 : QOk w0 w14 p ((k : Int), scB x.p.l p.l) ⟨A14, (scB x.p.l p.l).length, c14, scB x.p.l p.l⟩ := ⟨hd9, rfl, .inr ⟨by show (0 : Int) ≤ (k : Int); omega, fun ad h1 h2 => Nat.le_trans hsz9 (hf9 ad h1 h2)⟩⟩; refine ⟨i + 1, _, ⟨A14, (scB x.p.l p.l).length, c14, scB x.p.l p.l⟩, by omega, ⟨⟨by omega, hst.symm⟩, hlk4, hc4, hqn2, hb4⟩, ?_⟩; exact (Sub.cons rfl (by first | rfl | exact congrArg (Value.int _) (by omega)) (Sub.cons rfl (by first | rfl | exact congrArg (Value.int _) (by omega)) (Sub.cons rfl (by first | rfl | exact congrArg (Value.int _) (by omega)) (Sub.cons rfl rfl (Sub.cons rfl rfl (Sub.cons rfl rfl (Sub.cons rfl rfl (Sub.nil _))))))))
      ·
       have hlen := h57; refine T_skip (hK7 _ _ (T_region (L_y (y_add rfl rfl (i64w (by omega))) rfl (L_y (y_move rfl) rfl (L_nil ?_))))); have hst : shF os p.l ((candF os kind chain os.length 0).take (i + 1)) (-1, p.l) = (shF os p.l ((candF os kind chain os.length 0).take i) (-1, p.l)) := by rw [sh_next hk]; exact step_no ho (by rw [← hq.val, hq.ok.lenb]; rw [hxl] at hlen; first | exact Int.ofNat_lt.1 hlen | exact fun h => hlen (Int.ofNat_lt.2 h))
       have hqn2 := hq4; refine ⟨i + 1, _, q, by omega, ⟨⟨by omega, hst.symm⟩, hlk4, hc4, hqn2, hb4⟩, ?_⟩; exact (Sub.cons rfl (by first | rfl | exact congrArg (Value.int _) (by omega)) (Sub.cons rfl (by first | rfl | exact congrArg (Value.int _) (by omega)) (Sub.cons rfl (by first | rfl | exact congrArg (Value.int _) (by omega)) (Sub.cons rfl rfl (Sub.cons rfl rfl (Sub.cons rfl rfl (Sub.cons rfl rfl (Sub.nil _))))))))
     ·
      exact absurd rfl h51
  ·
   refine T_exit (hK3 _ _ (T_seq fun K18 hK18 => T_region (L_y (y_move rfl) rfl (L_y (y_move rfl) rfl (L_y (y_assign rfl) rfl (L_y (y_assign rfl) rfl (L_nil (hK18 _ _ (T_ret (ur (ret2 rfl rfl rfl ?_))))))))))); obtain rfl : i = (candF os kind chain os.length 0).length := by omega
   rw [List.take_length] at hq; exact ⟨_, rfl, hlk, q, by rw [List.take_length]; rfl, hq⟩
end Go.Proofs.YtgaklngnfecdaaaGreat.Pak
namespace Go.Proofs.YtgaklngnfecdaaaGreat.Pak
open Go.RowKit Zk Zx
open Oct
section
variable {x1 x2 x3 : Value}
def wu (x1 x2 x3 : Value) (g : Nat) (A : Option Addr) (n c : Nat) (l : List UInt8) : Res := both (blk g 113 #[.slice A n c, x1, x2, x3]) (row 5 1 A n c (bL l))
theorem wu_apart {w : World} {g n c : Nat} {A : Option Addr} {l : List UInt8} (h : (wu x1 x2 x3 g A n c l).holds w) : ∀ i, (blk g 113 #[.slice A n c, x1, x2, x3]).dom i → ¬ (row 5 1 A n c (bL l)).dom i := fun i hi hr => by
  have hi' : i = g := hi
  subst hi'
  exact own_blk_ne (e := 5) h.2 h.1 (by decide) hr
theorem wu_lt {w : World} {g n c : Nat} {A : Option Addr} {l : List UInt8} (h : (wu x1 x2 x3 g A n c l).holds w) : ∀ i, (wu x1 x2 x3 g A n c l).dom i → i < w.heap.size := fun i hi => by
  rcases hi with hi | hi
  · have hi' : i = g := hi
    subst hi'
    exact Blk.lt h.1
  · exact (World.ownsRow.lt h.2 i hi).2
theorem wu_len {w : World} {g n c : Nat} {A : Option Addr} {l : List UInt8} (h : (wu x1 x2 x3 g A n c l).holds w) : l.length = n := by
  have := h.2.1
  simpa using this
def LaidW (x1 x2 x3 : Value) (w w' : World) (g : Nat) (A : Option Addr) (n c : Nat) (l m : List UInt8) : Prop := ∃ A' n' c', Turned w w' (wu x1 x2 x3 g A n c l) (wu x1 x2 x3 g A' n' c' m)
theorem LaidW.of {w w' : World} {g n c n' c' : Nat} {A A' : Option Addr} {l m : List UInt8} {X : Array Value} {ys : List Value} (h : Turned w w' (wu x1 x2 x3 g A n c l) (both (blk g 113 X) (row 5 1 A' n' c' ys))) (hX : X = #[.slice A' n' c', x1, x2, x3]) (hy : ys = bL m) : LaidW x1 x2 x3 w w' g A n c l m := by
  subst hX
  subst hy
  exact ⟨A', n', c', h⟩
theorem LaidW.refl {w : World} {g n c : Nat} {A : Option Addr} {l : List UInt8} (h : (wu x1 x2 x3 g A n c l).holds w) : LaidW x1 x2 x3 w w g A n c l l := ⟨A, n, c, Turned.refl h⟩
theorem LaidW.same {w w' : World} {g n c : Nat} {A : Option Addr} {l m : List UInt8} (h : LaidW x1 x2 x3 w w' g A n c l m) : ∃ A' c', Turned w w' (wu x1 x2 x3 g A n c l) (wu x1 x2 x3 g A' m.length c' m) := by
  obtain ⟨A', n', c', h⟩ := h
  have := wu_len h.holds
  subst this
  exact ⟨A', c', h⟩
theorem wbyteW (g : Nat) (A : Option Addr) (n c : Nat) (l : List UInt8) (x : UInt8) (w0 : World) (hw : (wu x1 x2 x3 g A n c l).holds w0) (hn : l.length ≤ 70368744177664) :
    Calls Tryz.prog 89 #[.pointer (some ⟨g, 0, none⟩), .int .u8 (x.toNat : Int)] w0 fun e w' => ∃ u, e = .returned u ∧ LaidW x1 x2 x3 w0 w' g A n c l (l ++ [x]) := by
 refine enter1 (env := [(0, .pointer (some ⟨g, 0, none⟩)), (1, .int .u8 (x.toNat : Int))]) [.pointer (some ⟨g, 0, none⟩), .int .u8 (x.toNat : Int)] Tryz.func89 rfl Tryz.ntmps89 rfl rfl ?_; have hln := wu_len hw; have S0 := St.borrow2 (blk g 113 #[.slice A n c, x1, x2, x3]) (row 5 1 A n c (bL l)) hw.1 hw.2 (wu_lt hw) (wu_apart hw); refine T_seq fun K1 hK1 => T_region (L_y (y_move rfl) rfl (L_y (y_pneqn Tryz.underlying163 rfl) rfl (L_nil (hK1 _ _ (T_true rfl (T_region (L_y (y_move rfl) rfl (L_y (y_move rfl) rfl (L_y (y_nilp rfl) rfl (L_y (y_fieldA 0 Tryz.underlying110 rfl sz22 rfl rfl rfl) rfl (L_y (y_ldc Tryz.underlying22 rfl rfl (((S0.blk 0 rfl).cell _).trans (show (#[Value.slice A n c, x1, x2, x3] : Array Value)[0]? = some (Value.slice A n c) from rfl))) rfl (L_y (y_move rfl) rfl ?_)))))))))))); refine L_o (o_bsl [_] te22 zz5 S0 rfl rfl rfl rfl rfl rfl rfl rfl fun b1 w1 S1 => L_o (o_app te22 S1 1 rfl rfl rfl (by first | exact S1.row 1 rfl | exact S1.row 2 rfl) (by first | exact bL_one _ | exact iL_one _ | (intro u hu; simp at hu; subst hu; rfl) | (simp; done) | (simp [Value.oneCell']; done)) rfl (by omega) (by omega) fun A2 c2 w2 S2 => ?_)); have S2d := S2.drop (rs' := [_, _]) (.cons_cons _ (.cons_cons _ (.cons _ (.refl _)))); refine L_y (y_nilp rfl) rfl (L_y (y_fieldA 0 Tryz.underlying110 rfl sz22 rfl rfl rfl) rfl (L_o (o_st1 S2d 0 rfl rfl rfl rfl sz22 (by simp; done) fun w3 S3 => ?_))); refine L_nil ?_; first | refine end0 (fn := Tryz.f89) rfl ?_ | (simp only [thenQ, inB, if_true]; refine end0 (fn := Tryz.f89) rfl ?_)
 exact ⟨_, rfl, LaidW.of (S3.turned2 0 1 rfl rfl) rfl (by simp [bL, bV])⟩
theorem wrawW (g : Nat) (A : Option Addr) (n c : Nat) (l : List UInt8) (B : Option Addr) (m d : Nat) (q : List UInt8) (w0 : World) (hw : (wu x1 x2 x3 g A n c l).holds w0) (hp : Rs w0 1 B m d (bL q)) (hn : l.length + m ≤ 70368744177664) :
    Calls Tryz.prog 55 #[.pointer (some ⟨g, 0, none⟩), .slice B m d] w0 fun e w' => ∃ u, e = .returned u ∧ LaidW x1 x2 x3 w0 w' g A n c l (l ++ q) := by
 refine enter1 (env := [(0, .pointer (some ⟨g, 0, none⟩)), (1, .slice B m d)]) [.pointer (some ⟨g, 0, none⟩), .slice B m d] Tryz.func55 rfl Tryz.ntmps55 rfl rfl ?_; have hln := wu_len hw; have S0 := St.borrow2 (blk g 113 #[.slice A n c, x1, x2, x3]) (row 5 1 A n c (bL l)) hw.1 hw.2 (wu_lt hw) (wu_apart hw); refine T_seq fun K1 hK1 => T_region (L_y (y_move rfl) rfl (L_y (y_pneqn Tryz.underlying163 rfl) rfl (L_nil (hK1 _ _ (T_true rfl (T_region (L_y (y_move rfl) rfl (L_y (y_move rfl) rfl (L_y (y_nilp rfl) rfl (L_y (y_fieldA 0 Tryz.underlying110 rfl sz22 rfl rfl rfl) rfl (L_y (y_ldc Tryz.underlying22 rfl rfl (((S0.blk 0 rfl).cell _).trans (show (#[Value.slice A n c, x1, x2, x3] : Array Value)[0]? = some (Value.slice A n c) from rfl))) rfl (L_y (y_move rfl) rfl ?_)))))))))))); refine L_o (o_app te22 S0 1 rfl rfl rfl (hp) (bL_one _) rfl (by omega) (by omega) fun A1 c1 w1 S1 => L_y (y_nilp rfl) rfl (L_y (y_fieldA 0 Tryz.underlying110 rfl sz22 rfl rfl rfl) rfl (L_o (o_st1 S1 0 rfl rfl rfl rfl sz22 (by simp; done) fun w2 S2 => ?_)))); refine L_nil ?_; first | refine end0 (fn := Tryz.f55) rfl ?_ | (simp only [thenQ, inB, if_true]; refine end0 (fn := Tryz.f55) rfl ?_)
 have hE := S2.turned2 0 1 rfl rfl; exact ⟨_, rfl, LaidW.of hE rfl (by simp [bL])⟩
theorem wlenW (g : Nat) (A : Option Addr) (n c : Nat) (l : List UInt8) (w0 : World) (hw : (wu x1 x2 x3 g A n c l).holds w0) :
    Calls Tryz.prog 58 #[.pointer (some ⟨g, 0, none⟩)] w0 fun e w' => ∃ u, e = .returned u ∧ Like w0 w' ∧ u = .int .i64 (n : Int) := by
 refine enter1 (env := [(0, .pointer (some ⟨g, 0, none⟩))]) [.pointer (some ⟨g, 0, none⟩)] Tryz.func58 rfl Tryz.ntmps58 rfl rfl ?_; have S0 := St.start w0 noM; refine T_seq fun K1 hK1 => T_region (L_y (y_assign rfl) rfl (L_nil (hK1 _ _ (T_seq fun K2 hK2 => T_seq fun K3 hK3 => T_region (L_y (y_move rfl) rfl (L_y (y_peqn Tryz.underlying163 rfl) rfl (L_nil (hK3 _ _ (T_false rfl (T_skip ?_)))))))))); refine hK2 _ _ (T_seq fun K4 hK4 => T_region (L_y (y_move rfl) rfl (L_y (y_nilp rfl) rfl (L_y (y_fieldA 0 Tryz.underlying110 rfl sz22 rfl rfl rfl) rfl (L_y (y_ldc Tryz.underlying22 rfl rfl ((hw.1.cell _).trans (show (#[Value.slice A n c, x1, x2, x3] : Array Value)[0]? = some (Value.slice A n c) from rfl))) rfl (L_y (y_len Tryz.underlying22 rfl) rfl (L_y (y_assign rfl) rfl (L_nil (hK4 _ _ (T_ret (ur (ret1 rfl rfl ?_)))))))))))); exact ⟨_, rfl, S0.like0, rfl⟩
theorem wu32W (g : Nat) (A : Option Addr) (n c : Nat) (l : List UInt8) (x : Nat) (w0 : World) (hw : (wu x1 x2 x3 g A n c l).holds w0) (hx : x ≤ 4294967295) (hn : l.length ≤ 70368744177000) :
    Calls Tryz.prog 56 #[.pointer (some ⟨g, 0, none⟩), .int .u32 (x : Int)] w0 fun e w' => ∃ u, e = .returned u ∧ LaidW x1 x2 x3 w0 w' g A n c l (l ++ tl x 4) := by
 refine enter1 (env := [(0, .pointer (some ⟨g, 0, none⟩)), (1, .int .u32 (x : Int))]) [.pointer (some ⟨g, 0, none⟩), .int .u32 (x : Int)] Tryz.func56 rfl Tryz.ntmps56 rfl rfl ?_; have hln := wu_len hw; have S0 := St.borrow1 (wu x1 x2 x3 g A n c l) hw (wu_lt hw); refine T_seq fun K1 hK1 => T_region (L_y (y_move rfl) rfl (L_y (y_makeFunc rfl rfl) rfl (L_y (y_assign rfl) rfl (L_nil (hK1 _ _ (T_seq fun K2 hK2 => T_region (L_y (y_assign rfl) rfl (L_nil (hK2 _ _ (T_block ?_)))))))))); refine T_loop1 [(1, _), (4, _)] (fun (k : Nat) => [(5, .int .i64 (24 - 8 * (k : Int)))]) (fun (k : Nat) => 4 - k) (fun (k : Nat) (w : World) => k ≤ 4 ∧ ∃ A1 n1 c1, St w0 (wu x1 x2 x3 g A n c l).dom [wu x1 x2 x3 g A1 n1 c1 (l ++ (tl x 4).take k)] w) 0 (Sub.cons rfl (by first | rfl | exact congrArg (Value.int _) (by omega)) (Sub.nil _)) (Sub.cons rfl rfl (Sub.cons rfl rfl (Sub.nil _))) ?_ ?_
 ·
  exact ⟨Nat.zero_le _, _, _, _, by simpa using S0⟩
 ·
  intro k w1 hrel; obtain ⟨hk, A1, n1, c1, S1⟩ := hrel; refine T_seq fun K3 hK3 => T_seq fun K4 hK4 => T_region (L_y (y_move rfl) rfl (L_y (y_geq rfl rfl) rfl (L_nil (hK4 _ _ ?_)))); refine T_cond rfl (fun h9 => ?_) (fun h9 => ?_)
  ·
   refine T_skip (hK3 _ _ (T_seq fun K5 hK5 => T_block (T_region (L_y (y_move rfl) rfl (L_y (y_move rfl) rfl (L_y (y_move rfl) rfl (L_y (y_conv is3 Tryz.underlying68 rfl (u64w (by omega))) rfl (L_y (y_shr rfl rfl (by omega) (shr24 x k (by omega))) rfl (L_y (y_conv is63 Tryz.underlying5 rfl (Oct.byteOf _)) rfl (L_o (o_callv rfl Tryz.func89 rfl rfl (wbyteW g A1 n1 c1 (l ++ (tl x 4).take k) (UInt8.ofNat (x / 256 ^ (4 - 1 - k) % 256)) w1 (S1.get 0 rfl) (by simp [length_tl]; omega)) rfl rfl (fun d' hd => by cases hd <;> rfl) ?_))))))))))); rintro e2 w2 ⟨v2, rfl, ⟨A2, n2, c2, T2⟩⟩; refine ⟨_, rfl, (have S2 := S1.turn 0 rfl T2; L_nil (hK5 _ _ (T_region (L_y (y_move rfl) rfl (L_y (y_sub rfl rfl (i64w (by omega))) rfl (L_y (y_assign rfl) rfl (L_nil (⟨k + 1, by omega, ⟨by omega, _, _, _, by rw [tl_take x 4 k (by omega), ← List.append_assoc]; exact S2⟩, ?_⟩))))))))⟩; exact (Sub.cons rfl (congrArg (Value.int _) (by omega)) (Sub.cons rfl rfl (Sub.cons rfl rfl (Sub.nil _))))
  ·
   have hk4 : k = 4 := by omega
   subst hk4; refine T_exit ?_; first | refine end0 (fn := Tryz.f56) rfl ?_ | (simp only [thenQ, inB, if_true]; refine end0 (fn := Tryz.f56) rfl ?_)
   exact ⟨_, rfl, A1, n1, c1, by simpa [List.take_of_length_le, length_tl] using S1.turned1 0 rfl⟩
theorem wvarW (g : Nat) (A : Option Addr) (n c : Nat) (l : List UInt8) (x : Nat) (w0 : World) (hw : (wu x1 x2 x3 g A n c l).holds w0) (hx : x ≤ 18446744073709551615) (hn : l.length ≤ 70368744176000) :
    Calls Tryz.prog 91 #[.pointer (some ⟨g, 0, none⟩), .int .u64 (x : Int)] w0 fun e w' => ∃ u, e = .returned u ∧ LaidW x1 x2 x3 w0 w' g A n c l (l ++ vr x) := by
 refine enter1 (env := [(0, .pointer (some ⟨g, 0, none⟩)), (1, .int .u64 (x : Int))]) [.pointer (some ⟨g, 0, none⟩), .int .u64 (x : Int)] Tryz.func91 rfl Tryz.ntmps91 rfl rfl ?_; have hln := wu_len hw; have S0 := St.borrow1 (wu x1 x2 x3 g A n c l) hw (wu_lt hw); refine T_seq fun K1 hK1 => T_region (L_y (y_move rfl) rfl (L_y (y_makeFunc rfl rfl) rfl (L_y (y_assign rfl) rfl (L_nil (hK1 _ _ (T_seq fun K2 hK2 => T_block ?_)))))); refine T_loop2 [(4, _)] (fun (y : Nat) (m : List UInt8) => [(1, .int .u64 (y : Int))]) (fun (y : Nat) (m : List UInt8) => y) (fun (y : Nat) (m : List UInt8) (w : World) => (m ++ vr y = l ++ vr x ∧ y ≤ x ∧ m.length + (vr y).length ≤ 70368744177000) ∧ ∃ A1 n1 c1, St w0 (wu x1 x2 x3 g A n c l).dom [wu x1 x2 x3 g A1 n1 c1 m] w) x l (Sub.cons rfl (by first | rfl | exact congrArg (Value.int _) (by omega)) (Sub.nil _)) (Sub.cons rfl rfl (Sub.nil _)) ?_ ?_
 ·
  have := vr_len10 x hx; exact ⟨⟨rfl, Nat.le_refl _, by omega⟩, _, _, _, S0⟩
 ·
  intro y m w1 hrel; obtain ⟨⟨hm, hy, hml⟩, A1, n1, c1, S1⟩ := hrel; have hg : m.length ≤ 70368744177000 := by omega
  refine T_seq fun K3 hK3 => T_seq fun K4 hK4 => T_region (L_y (y_move rfl) rfl (L_y (y_geq rfl rfl) rfl (L_nil (hK4 _ _ ?_)))); refine T_cond rfl (fun h8 => ?_) (fun h8 => ?_)
  ·
   refine T_skip (hK3 _ _ (T_block (T_seq fun K5 hK5 => T_region (L_y (y_move rfl) rfl (L_y (y_move rfl) rfl (L_y (y_conv is102 Tryz.underlying5 rfl (w8 _)) rfl (L_y (y_bits rfl rfl rfl (orB _)) rfl (L_o (o_callv rfl Tryz.func89 rfl rfl (wbyteW g _ _ _ _ (UInt8.ofNat (y % 128 + 128)) w1 (S1.get 0 rfl) (by omega)) rfl rfl (fun d' hd => by cases hd <;> rfl) ?_))))))))); rintro e2 w2 ⟨v2, rfl, ⟨A2, n2, c2, T2⟩⟩; refine ⟨_, rfl, (have S2 := S1.turn 0 rfl T2; L_nil (hK5 _ _ (T_region (L_y (y_move rfl) rfl (L_y (y_shr rfl rfl (by omega) (shr7 _)) rfl (L_y (y_assign rfl) rfl (L_nil (⟨y / 128, m ++ [UInt8.ofNat (y % 128 + 128)], by omega, ⟨⟨by rw [← hm, vr_big y (by omega)]; simp, by omega, by rw [vr_big y (by omega)] at hml; simp at hml ⊢; omega⟩, _, _, _, S2⟩, ?_⟩))))))))⟩; exact (Sub.cons rfl (by first | rfl | exact congrArg (Value.int _) (by omega)) (Sub.cons rfl rfl (Sub.nil _)))
  ·
   refine T_exit (hK2 _ _ (T_region (L_y (y_move rfl) rfl (L_y (y_move rfl) rfl (L_y (y_conv is102 Tryz.underlying5 rfl (w8low _ (by omega))) rfl (L_o (o_callv rfl Tryz.func89 rfl rfl (wbyteW g _ _ _ _ (UInt8.ofNat y) w1 (S1.get 0 rfl) (by omega)) rfl rfl (fun d' hd => by cases hd <;> rfl) ?_))))))); rintro e3 w3 ⟨v3, rfl, ⟨A3, n3, c3, T3⟩⟩; refine ⟨_, rfl, (have S3 := S1.turn 0 rfl T3; L_nil ?_)⟩; first | refine end0 (fn := Tryz.f91) rfl ?_ | (simp only [thenQ, inB, if_true]; refine end0 (fn := Tryz.f91) rfl ?_)
   exact ⟨_, rfl, _, _, _, by rw [← hm, vr_low y (by omega)]; exact S3.turned1 0 rfl⟩
theorem wbytesW (g : Nat) (A : Option Addr) (n c : Nat) (l : List UInt8) (w0 : World) (hw : (wu x1 x2 x3 g A n c l).holds w0) (hn : l.length ≤ 70368744177000) :
    Calls Tryz.prog 59 #[.pointer (some ⟨g, 0, none⟩)] w0 fun e w' => ∃ u, e = .returned u ∧ Like w0 w' ∧ ∃ A' m c', u = .slice A' m c' ∧ w'.ownsRow w0.heap.size 5 1 (.slice A' m c') m (bL l) := by
 refine enter1 (env := [(0, .pointer (some ⟨g, 0, none⟩))]) [.pointer (some ⟨g, 0, none⟩)] Tryz.func59 rfl Tryz.ntmps59 rfl rfl ?_; have hln := wu_len hw; have S0 := St.start w0 noM; refine T_seq fun K1 hK1 => T_region (L_y (y_assign rfl) rfl (L_nil (hK1 _ _ (T_seq fun K2 hK2 => T_seq fun K3 hK3 => T_region (L_y (y_move rfl) rfl (L_y (y_peqn Tryz.underlying163 rfl) rfl (L_y (y_move rfl) rfl (L_gyes rfl rfl (L_y (y_move rfl) rfl (L_gyes rfl rfl ?_)))))))))); refine L_y (y_nilp rfl) rfl (L_gyes rfl rfl (L_y (y_fieldA 0 Tryz.underlying110 rfl sz22 rfl rfl rfl) rfl (L_gyes rfl rfl (L_y (y_ldc Tryz.underlying22 rfl rfl (((S0.rdB hw.1).cell _).trans (show (#[Value.slice A n c, x1, x2, x3] : Array Value)[0]? = some (Value.slice A n c) from rfl))) rfl (L_gyes rfl rfl (L_y (y_len Tryz.underlying22 rfl) rfl (L_gyes rfl rfl (L_y (y_eql rfl rfl) rfl (L_y (y_pk rfl rfl) rfl (L_nil (hK3 _ _ ?_))))))))))); refine T_cond rfl (fun h12 => ?_) (fun h12 => ?_)
 ·
  refine T_seq fun K4 hK4 => T_region (L_y (y_assign rfl) rfl (L_nil (hK4 _ _ (T_ret (ur (ret1 rfl rfl ?_)))))); first | exact ⟨_, rfl, S0.like0, none, 0, 0, rfl, by have hn0 : n = 0 := (by omega); subst hn0; have hl0 := List.length_eq_zero_iff.1 hln; subst hl0; exact ⟨by simp [bL], .inl ⟨rfl, rfl⟩⟩⟩ | exact ⟨_, rfl, S0.like0, _, _, _, rfl, by have := S0.own 0 rfl; simpa using this⟩
 ·
  refine T_skip (hK2 _ _ (T_seq fun K5 hK5 => T_zed [0, 1, 2, 3, 4, 6, 7, 8, 9, 5] 10 [(0, 1), (1, 1), (2, 1), (3, 1), (4, 1), (6, 1), (7, 1), (8, 1), (9, 1), (5, 2), (10, 3), (11, 3)] hmix (by kernel_rfl) fun w1 l1 => have S1 := S0.like l1; ZA_B (Like w1) (Like.refl _) (ZB_y rfl (y_move rfl) rfl (ZB_y rfl (y_nilp rfl) rfl (ZB_y rfl (y_fieldA 0 Tryz.underlying110 rfl sz22 rfl rfl rfl) rfl (ZB_y rfl (y_ldc Tryz.underlying22 rfl rfl (((S1.rdB hw.1).cell _).trans (show (#[Value.slice A n c, x1, x2, x3] : Array Value)[0]? = some (Value.slice A n c) from rfl))) rfl (ZB_y rfl (y_len Tryz.underlying22 rfl) rfl (ZB_y rfl (y_move rfl) rfl (ZB_y rfl (y_nilp rfl) rfl (ZB_y rfl (y_fieldA 0 Tryz.underlying110 rfl sz22 rfl rfl rfl) rfl ?_)))))))))); refine ZB_y rfl (y_ldc Tryz.underlying22 rfl rfl (((S1.rdB hw.1).cell _).trans (show (#[Value.slice A n c, x1, x2, x3] : Array Value)[0]? = some (Value.slice A n c) from rfl))) rfl (ZB_o rfl (o_makeL te22 rfl S1 rfl rfl inferInstance inferInstance rfl (by omega) (by omega) (by omega) fun b2 w2 l2 S2 => have q2 := l2; ⟨q2, (ZB_c rfl (o_app te22 S2 0 rfl rfl rfl (S2.rd (rs_of_row hw.2)) (bL_one _) rfl (by omega) (by omega) fun A3 c3 w3 S3 => ZA_oy rfl (y_assign rfl) rfl (ZA_nil (hK5 _ _ (T_ret (ur (ret1 rfl rfl ?_)))))))⟩)); first | exact ⟨_, rfl, S3.like0, none, 0, 0, rfl, by have hn0 : n = 0 := (by omega); subst hn0; have hl0 := List.length_eq_zero_iff.1 hln; subst hl0; exact ⟨by simp [bL], .inl ⟨rfl, rfl⟩⟩⟩ | exact ⟨_, rfl, S3.like0, _, _, _, rfl, by have := S3.own 0 rfl; simpa using this⟩
end
end Go.Proofs.YtgaklngnfecdaaaGreat.Pak
namespace Go.Proofs.YtgaklngnfecdaaaGreat.Zx
open Go.RowKit Zk
section
variable {w0 w : World} {M : Nat → Prop} {rs ps : List Res} {r s : Res}
theorem St.splitAt (S : St w0 M rs w) (k : Nat) (hk : rs[k]? = some (both r s)) (hap : ∀ i, r.dom i → ¬ s.dom i) : St w0 M (rs.set k r ++ [s]) w := by
  obtain ⟨hkl, hke⟩ := List.getElem?_eq_some_iff.1 hk
  have hp := List.pairwise_iff_getElem.1 S.apart
  have hb := S.res (both r s) (List.mem_of_getElem? hk)
  have hne : ∀ j (hj : j < rs.length), j ≠ k → ∀ i, rs[j].dom i → ¬ (both r s).dom i := fun j hj h i hi hb2 => by
    rcases Nat.lt_or_gt_of_ne h with g | g
    · exact hp j k hj hkl g i hi (by rw [hke]; exact hb2)
    · exact hp k j hkl hj g i (by rw [hke]; exact hb2) hi
  refine ⟨S.os, S.tape, S.output, S.size, S.old, fun q hq => ?_, ?_⟩
  · rcases List.mem_append.1 hq with hq | hq
    · rcases List.mem_or_eq_of_mem_set hq with g | g
      · exact S.res q g
      · subst g; exact ⟨hb.1.1, fun i hi => hb.2 i (.inl hi)⟩
    · obtain rfl := List.mem_singleton.1 hq
      exact ⟨hb.1.2, fun i hi => hb.2 i (.inr hi)⟩
  · rw [List.pairwise_append]
    refine ⟨?_, List.pairwise_singleton _ _, fun a ha b hbm i hi hbi => ?_⟩
    · rw [List.pairwise_iff_getElem]
      intro i j hi hj hij x hx hxj
      have hi' : i < rs.length := by simpa using hi
      have hj' : j < rs.length := by simpa using hj
      rw [List.getElem_set] at hx hxj
      split at hx
      · rename_i e
        subst e
        rw [if_neg (by omega)] at hxj
        exact hne j hj' (by omega) x hxj (.inl hx)
      · rename_i e
        split at hxj
        · exact hne i hi' (fun q => e q.symm) x hx (.inl hxj)
        · exact hp i j hi' hj' hij x hx hxj
    · obtain rfl := List.mem_singleton.1 hbm
      obtain ⟨j, hj, rfl⟩ := List.getElem_of_mem ha
      have hj' : j < rs.length := by simpa using hj
      rw [List.getElem_set] at hi
      split at hi
      · exact hap i hi hbi
      · rename_i e
        exact hne j hj' (fun q => e q.symm) i hi (.inr hbi)
theorem St.joinL (S : St w0 M (ps ++ [r, s]) w) : St w0 M (ps ++ [both r s]) w := by
  have hap := List.pairwise_append.1 S.apart
  refine ⟨S.os, S.tape, S.output, S.size, S.old, fun q hq => ?_, ?_⟩
  · rcases List.mem_append.1 hq with hq | hq
    · exact S.res q (List.mem_append_left _ hq)
    · obtain rfl := List.mem_singleton.1 hq
      have h1 := S.res r (List.mem_append_right _ (by simp))
      have h2 := S.res s (List.mem_append_right _ (by simp))
      exact ⟨⟨h1.1, h2.1⟩, fun i hi => hi.elim (h1.2 i) (h2.2 i)⟩
  · rw [List.pairwise_append]
    refine ⟨hap.1, List.pairwise_singleton _ _, fun a ha b hbm i hi hbi => ?_⟩
    obtain rfl := List.mem_singleton.1 hbm
    rcases hbi with hbi | hbi
    · exact hap.2.2 a ha r (by simp) i hi hbi
    · exact hap.2.2 a ha s (by simp) i hi hbi
end
end Go.Proofs.YtgaklngnfecdaaaGreat.Zx
namespace Go.Proofs.YtgaklngnfecdaaaGreat.Pak
open Go.RowKit Zk Zx
open Sha (N xorN andN notN N_ge N_le)
open Go.Proofs.YtgaklngnfecdaaaGreat.Obj (objE objB nameI nameI_len nameI_ok nameI_no zB zB_len rs_tail)
open Oct (vaN rwL rwP rwE rnL rnP rnE be vr tl length_tl)
open Del (scA opf OP OkO mkV encV putR readV aplR)
def pkL (g : Nat) (A : Option Addr) (n c : Nat) (A1 : Option Addr) (c1 : Nat) (A2 : Option Addr) (c2 : Nat) (A3 : Option Addr) (c3 : Nat) (its : List It) (s : Pk) : List Res :=
  [row 65 2 A1 its.length c1 (its.flatMap itf), row 67 34 A2 s.os.length c2 (s.os.flatMap plO), row 3 1 A3 s.os.length c3 (s.os.map depV), wu (.slice A1 its.length c1) (.slice A2 s.os.length c2) (.slice A3 s.os.length c3) g A n c s.bs]
def OkM (w : World) (M : Nat → Prop) (p : Part) : Prop := p.ok w ∧ ∀ ad, 0 < p.n → p.A = some ad → ¬ M ad.block
theorem St.okM {w0 w : World} {M : Nat → Prop} {rs : List Res} (S : St w0 M rs w) {p : Part} (h : OkM w0 M p) : p.ok w := S.rdM h.1 h.2
theorem St.okI {w0 w : World} {M : Nat → Prop} {rs : List Res} (S : St w0 M rs w) {its : List It} (h : ∀ x ∈ its, OkM w0 M x.p) : OkI w its := fun x hx => St.okM S (h x hx)
theorem q_fr {w0 w : World} {p : Part} {r : Int × List UInt8} {q : Part} (h : QOk w0 w p r q) (hr : 0 ≤ r.1) : Fr w0 w 1 q.A q.n q.c (bL q.l) := by
  rcases h.src with ⟨h1, _⟩ | ⟨_, h2⟩
  · omega
  · exact ⟨h.ok, h2⟩
theorem q_eq {w0 w : World} {p : Part} {r : Int × List UInt8} {q : Part} (h : QOk w0 w p r q) (hr : r.1 = -1) : q = p := by
  rcases h.src with ⟨_, h1⟩ | ⟨h1, _⟩
  · exact h1
  · omega
theorem kindB {k : Int} (h : 1 ≤ k ∧ k ≤ 4) : IntKind.u8.wrap k = ((UInt8.ofNat k.toNat).toNat : Int) := by
  rw [IntKind.wrap_u8, UInt8.toNat_ofNat']
  omega
theorem subU {n m : Nat} (h : m ≤ n) (h2 : n ≤ 1000000) : IntKind.u64.wrap ((n : Int) - (m : Int)) = ((n - m : Nat) : Int) := by
  rw [IntKind.wrap_u64]
  omega
theorem plOl (o : Ob) (k : Nat) : (plO o)[32 + k]? = [Value.int .i64 (o.at_ : Int), .int .u32 (N o.sum)][k]? := by
  unfold plO
  rw [List.getElem?_append_right (by rw [length_bL, Ob.id_len]; omega), length_bL, Ob.id_len]
  congr 1
  omega
theorem plOl32 (o : Ob) : (plO o)[32]? = some (.int .i64 (o.at_ : Int)) := plOl o 0
theorem list32 {α : Type} (l : List α) (h : l.length = 32) : ∃ a0 a1 a2 a3 a4 a5 a6 a7 a8 a9 a10 a11 a12 a13 a14 a15 a16 a17 a18 a19 a20 a21 a22 a23 a24 a25 a26 a27 a28 a29 a30 a31, l = [a0, a1, a2, a3, a4, a5, a6, a7, a8, a9, a10, a11, a12, a13, a14, a15, a16, a17, a18, a19, a20, a21, a22, a23, a24, a25, a26, a27, a28, a29, a30, a31] := by
  match l, h with
  | [a0, a1, a2, a3, a4, a5, a6, a7, a8, a9, a10, a11, a12, a13, a14, a15, a16, a17, a18, a19, a20, a21, a22, a23, a24, a25, a26, a27, a28, a29, a30, a31], _ => exact ⟨a0, a1, a2, a3, a4, a5, a6, a7, a8, a9, a10, a11, a12, a13, a14, a15, a16, a17, a18, a19, a20, a21, a22, a23, a24, a25, a26, a27, a28, a29, a30, a31, rfl⟩
theorem built_pl {id : List UInt8} (h : id.length = 32) (a s : Int) : Tryz.prog.built 67 [(0, .agg (bA id)), (1, .int .i64 a), (2, .int .u32 s)] = some (bL id ++ [Value.int .i64 a, Value.int .u32 s]).toArray := by
  obtain ⟨a0, a1, a2, a3, a4, a5, a6, a7, a8, a9, a10, a11, a12, a13, a14, a15, a16, a17, a18, a19, a20, a21, a22, a23, a24, a25, a26, a27, a28, a29, a30, a31, rfl⟩ := list32 id h
  kernel_rfl
theorem lay_w {s : Pk} {v : IV} {r : Int × List UInt8} (h : r.1 < 0) : layO s v r = ⟨s.bs ++ entB (UInt8.ofNat v.1.toNat) [] r.2, s.os ++ [⟨v.1, v.2, 0, s.bs.length, crcL r.2⟩]⟩ := by unfold layO; rw [if_pos h]
theorem lay_m {s : Pk} {v : IV} {r : Int × List UInt8} {k : Nat} {o : Ob} (h : r.1 = (k : Int)) (ho : s.os[k]? = some o) : layO s v r = ⟨s.bs ++ entB 5 (vr (s.bs.length - o.at_)) r.2, s.os ++ [⟨v.1, v.2, o.dep + 1, s.bs.length, crcL r.2⟩]⟩ := by
  unfold layO
  rw [if_neg (by omega)]
  have e : r.1.toNat = k := by omega
  unfold ofAt ofDep
  rw [e, ho]
  rfl
theorem add0 (g : Nat) (A : Option Addr) (n c : Nat) (A1 : Option Addr) (c1 : Nat) (A2 : Option Addr) (c2 : Nat) (A3 : Option Addr) (c3 : Nat) (its : List It) (s : Pk) (x : It) (chain : Int) (w0 : World) (hw : (sepL (pkL g A n c A1 c1 A2 c2 A3 c3 its s)).holds w0) (hio : Same its s.os) (hits : ∀ y ∈ its, OkM w0 (sepL (pkL g A n c A1 c1 A2 c2 A3 c3 its s)).dom y.p) (hsm : ∀ y ∈ its, y.p.n ≤ 300) (hp : OkM w0 (sepL (pkL g A n c A1 c1 A2 c2 A3 c3 its s)).dom x.p) (hp3 : x.p.n ≤ 300) (hk : 1 ≤ x.kind ∧ x.kind ≤ 4) (hc8 : chain ≤ 8) (hbl : s.bs.length ≤ 20000) (hil : its.length ≤ 1000) (hat : ∀ o ∈ s.os, o.at_ ≤ s.bs.length) (hr : (toldV s.os chain x.kind x.p.l).1 = -1) :
    Calls Tryz.prog 57 #[.pointer (some ⟨g, 0, none⟩), .agg (itf x).toArray, .agg (bA (nameI x.kind x.p.l)), .int .i64 chain] w0 fun e w' => ∃ u, e = .returned u ∧ u = .tuple #[] ∧ ∃ A' n' c' A1' c1' A2' c2' A3' c3', Turned w0 w' (sepL (pkL g A n c A1 c1 A2 c2 A3 c3 its s)) (sepL (pkL g A' n' c' A1' c1' A2' c2' A3' c3' (its ++ [x]) (addV chain s (x.kind, x.p.l)))) := by
 refine enter1 (env := [(0, .pointer (some ⟨g, 0, none⟩)), (1, .agg (itf x).toArray), (2, .agg (bA (nameI x.kind x.p.l))), (3, .int .i64 chain)]) [.pointer (some ⟨g, 0, none⟩), .agg (itf x).toArray, .agg (bA (nameI x.kind x.p.l)), .int .i64 chain] Tryz.func57 rfl Tryz.ntmps57 rfl rfl ?_; have S0 := St.borrowL hw; have hnw := wu_len (S0.get 3 rfl); subst hnw; have hxb := hp.1.lenb; have htl := (told_ok s.os chain x.kind x.p.l).2; have hsl := hio.len; have hneg : (toldV s.os chain x.kind x.p.l).1 < 0 := by omega
 have S0 : Zx.St w0 (sepL (pkL g A s.bs.length c A1 c1 A2 c2 A3 c3 its s)).dom [row 65 2 A1 its.length c1 (its.flatMap itf), row 67 34 A2 s.os.length c2 (s.os.flatMap plO), row 3 1 A3 s.os.length c3 (s.os.map depV), wu (.slice A1 its.length c1) (.slice A2 s.os.length c2) (.slice A3 s.os.length c3) g A s.bs.length c s.bs] w0 := S0; refine T_seq fun K1 hK1 => T_region (L_o (o_box rfl S0 rfl fun b1 w1 hb1 S1 => L_o (o_box rfl S1 rfl fun b2 w2 hb2 S2 => L_nil (hK1 _ _ (T_seq fun K2 hK2 => T_region (L_y (y_move rfl) rfl (L_y (y_nilp rfl) rfl (L_y (y_fieldA 0 Tryz.underlying113 rfl sz110 rfl rfl rfl) rfl (L_o (o_call Tryz.func58 rfl rfl (wlenW g A s.bs.length c s.bs w2 (S2.get 3 rfl)) rfl rfl ?_)))))))))); rintro e3 w3 ⟨v3, rfl, l3, rfl⟩; refine ⟨_, rfl, (have S3 := S2.like l3; L_y (y_assign rfl) rfl (L_nil (hK2 _ _ (T_seq fun K3 hK3 => T_region (L_y (y_move rfl) rfl (L_y (y_ldW Tryz.underlying65 rfl sz65 rfl (S3.blk 4 rfl) (show _ = itf x ∧ _ from ⟨rfl, rfl⟩)) rfl (L_y (y_move rfl) rfl (L_o (o_call Tryz.func90 rfl rfl (shortest g _ _ A1 its.length c1 A3 s.os.length c3 its s.os x.kind chain x.p w3 (S3.get 3 rfl).1 (S3.row 0 rfl) (S3.row 2 rfl) hio (by omega) (St.okI S3 hits) (fun y hy => (hsm y hy)) (St.okM S3 hp) hp3) rfl rfl ?_)))))))))⟩; rintro e4 w4 ⟨v4, rfl, l4, q, rfl, hq⟩; refine ⟨_, rfl, ?_⟩; have S4 := S3.like l4; obtain rfl := q_eq hq hr; have hv := hq.val; have hva := Oct.vr_len10 x.p.n (by omega); refine L_y (y_move rfl) rfl (L_y (y_extract rfl rfl) rfl (L_y (y_extract rfl rfl) rfl (L_y (y_assign rfl) rfl (L_y (y_assign rfl) rfl (L_nil (hK3 _ _ (T_seq fun K4 hK4 => T_region (L_y (y_assign rfl) rfl (L_nil (hK4 _ _ (T_seq fun K5 hK5 => T_seq fun K6 hK6 => ?_))))))))))); refine T_region (L_y (y_move rfl) rfl (L_y (y_lss rfl rfl) rfl (L_nil (hK6 _ _ ?_)))); refine T_cond rfl (fun h25 => ?_) (fun h25 => ?_)
 ·
  refine T_seq fun K7 hK7 => T_tail 6 hmix (by kernel_rfl) fun w5 l5 K8 hK8 => have S5 := S4.like l5; HL_y (y_move rfl) rfl (HL_y (y_nilp rfl) rfl (HL_y (y_fieldA 0 Tryz.underlying113 rfl sz110 rfl rfl rfl) rfl (HL_y (y_fieldA 0 Tryz.underlying65 rfl sz3 rfl rfl rfl) rfl (HL_y (y_ldc Tryz.underlying3 rfl rfl (((S5.blk 4 rfl).cell _).trans (by rfl))) rfl ?_)))); refine HL_y (y_conv is3 Tryz.underlying5 rfl (kindB hk)) rfl (HL_nil (hK8 _ (L_o (o_call Tryz.func89 rfl rfl (wbyteW g A s.bs.length c (s.bs) (UInt8.ofNat x.kind.toNat) w5 (S5.get 3 rfl) (by first | omega | (simp only [List.length_append, List.length_cons, List.length_nil, length_tl]; omega))) rfl rfl ?_)))); rintro e6 w6 ⟨v6, rfl, A6, n6, c6, T6⟩; refine ⟨_, rfl, (have S6 := S5.turn 3 rfl T6; L_nil (hK7 _ _ (T_region (L_y (y_move rfl) rfl (L_y (y_nilp rfl) rfl (L_y (y_fieldA 0 Tryz.underlying113 rfl sz110 rfl rfl rfl) rfl (L_y (y_move rfl) rfl (L_y (y_len Tryz.underlying22 rfl) rfl (L_y (y_conv is3 Tryz.underlying102 rfl (u64w (by omega))) rfl (L_o (o_call Tryz.func91 rfl rfl (wvarW g A6 n6 c6 (s.bs ++ [UInt8.ofNat x.kind.toNat]) x.p.n w6 (S6.get 3 rfl) (by omega) (by first | omega | (simp only [List.length_append, List.length_cons, List.length_nil, length_tl]; omega))) rfl rfl ?_)))))))))))⟩; rintro e7 w7 ⟨v7, rfl, A7, n7, c7, T7⟩; refine ⟨_, rfl, (have S7 := S6.turn 3 rfl T7; L_nil (hK5 _ _ (T_seq fun K9 hK9 => T_region (L_y (y_move rfl) rfl (L_o (o_bsl [_] te155 zz22 S7 rfl rfl rfl rfl rfl rfl rfl rfl fun b8 w8 S8 => L_o (o_call Tryz.func92 rfl rfl (of_ _ _ _ [x.p] w8 (S8.row 6 rfl) (fun y hy => by obtain rfl := List.mem_singleton.1 hy; exact (St.okM S8 hp))) rfl rfl ?_)))))))⟩; rintro e9 w9 ⟨v9, rfl, l9, rfl⟩; refine ⟨_, rfl, (have S9 := S8.like l9; L_y (y_assign rfl) rfl (L_nil (hK9 _ _ (T_seq fun K10 hK10 => T_region (L_y (y_move rfl) rfl (L_y (y_nilp rfl) rfl (L_y (y_fieldA 0 Tryz.underlying113 rfl sz110 rfl rfl rfl) rfl (L_y (y_move rfl) rfl (L_o (o_call Tryz.func56 rfl rfl (wu32W g A7 n7 c7 (s.bs ++ [UInt8.ofNat x.kind.toNat] ++ vr x.p.n) (crcL x.p.l).toNat w9 (S9.get 3 rfl) (by have := (crcL x.p.l).toNat_lt; omega) (by first | omega | (simp only [List.length_append, List.length_cons, List.length_nil, length_tl]; omega))) rfl rfl ?_))))))))))⟩; rintro e10 w10 ⟨v10, rfl, A10, n10, c10, T10⟩; refine ⟨_, rfl, (have S10 := S9.turn 3 rfl T10; L_nil (hK10 _ _ (T_seq fun K11 hK11 => T_region (L_y (y_move rfl) rfl (L_y (y_nilp rfl) rfl (L_y (y_fieldA 0 Tryz.underlying113 rfl sz110 rfl rfl rfl) rfl (L_y (y_move rfl) rfl (L_o (o_call Tryz.func55 rfl rfl (wrawW g A10 n10 c10 (s.bs ++ [UInt8.ofNat x.kind.toNat] ++ vr x.p.n ++ tl (crcL x.p.l).toNat 4) x.p.A x.p.n x.p.c x.p.l w10 (S10.get 3 rfl) (St.okM S10 hp) (by first | omega | (simp only [List.length_append, List.length_cons, List.length_nil, length_tl]; omega))) rfl rfl ?_)))))))))⟩; rintro e11 w11 ⟨v11, rfl, A11, n11, c11, T11⟩; refine ⟨_, rfl, (have S11 := S10.turn 3 rfl T11; L_nil (hK11 _ _ (T_seq fun K12 hK12 => have S12 := S11.splitAt 3 rfl (wu_apart (S11.get 3 rfl)); T_zed [1, 2, 3, 4, 5, 6] 7 [(0, 0), (1, 1), (2, 1), (3, 1), (4, 1), (5, 1), (6, 2), (7, 3), (8, 3), (9, 3), (10, 3)] hmix (by kernel_rfl) fun w13 l13 => have S13 := S12.like l13; ZA_y rfl (y_move rfl) rfl (ZA_B (Like w13) (Like.refl _) (ZB_y rfl (y_move rfl) rfl (ZB_y rfl (y_nilp rfl) rfl (ZB_y rfl (y_fieldA 1 Tryz.underlying113 rfl sz48 rfl rfl rfl) rfl (ZB_y rfl (y_ldc Tryz.underlying48 rfl rfl (((S13.blk 3 rfl).cell _).trans (by rfl))) rfl ?_))))))))⟩
  refine ZB_y rfl (y_ldW Tryz.underlying65 rfl sz65 rfl (S13.blk 4 rfl) (show _ = itf x ∧ _ from ⟨rfl, rfl⟩)) rfl (ZB_o rfl (o_bslL (itf x) te48 zz65 S13 rfl rfl rfl rfl (by simp [Value.cells]) rfl rfl rfl fun b14 w14 l14 S14 => ?_)); have q14 := l14; refine ⟨q14, (ZB_c rfl (o_app te48 S14 0 rfl rfl rfl (by first | exact S14.row 6 rfl | exact S14.row 8 rfl) (fun u hu => itf_one x u hu) rfl (by omega) (by omega) fun A15 c15 w15 S15 => ?_))⟩; have S15d := S15.drop (rs' := [_, _, _, _, _, _, _, _]) (.cons_cons _ (.cons_cons _ (.cons_cons _ (.cons_cons _ (.cons_cons _ (.cons_cons _ (.cons_cons _ (.cons_cons _ (.cons _ (.refl _)))))))))); refine ZA_oy rfl (y_nilp rfl) rfl (ZA_oy rfl (y_fieldA 1 Tryz.underlying113 rfl sz48 rfl rfl rfl) rfl (ZA_o rfl (o_st1 S15d 3 rfl rfl rfl rfl sz48 (by simp; done) fun w16 S16 => ?_))); refine ZA_nil (hK12 _ _ (T_seq fun K13 hK13 => T_zed [1, 2, 3, 4, 5, 6, 7, 8, 9] 10 [(0, 0), (1, 1), (2, 1), (3, 1), (4, 1), (5, 1), (6, 1), (7, 1), (8, 1), (9, 2), (10, 3), (11, 3), (12, 3), (13, 3)] hmix (by kernel_rfl) fun w17 l17 => have S17 := S16.like l17; ZA_y rfl (y_move rfl) rfl (ZA_B (Like w17) (Like.refl _) (ZB_y rfl (y_move rfl) rfl (ZB_y rfl (y_nilp rfl) rfl (ZB_y rfl (y_fieldA 2 Tryz.underlying113 rfl sz50 rfl rfl rfl) rfl (ZB_y rfl (y_ldc Tryz.underlying50 rfl rfl (((S17.blk 3 rfl).cell _).trans (by rfl))) rfl ?_))))))); refine ZB_y rfl (y_ldW Tryz.underlying41 rfl sz41 rfl (S17.blk 5 rfl) (id_part (x.kind, x.p.l))) rfl (ZB_y rfl (y_move rfl) rfl (ZB_y rfl (y_move rfl) rfl (ZB_y rfl (y_build rfl (built_pl (nameI_len _ _) _ _)) rfl (ZB_o rfl (o_bslL (plO (⟨x.kind, x.p.l, 0, s.bs.length, crcL x.p.l⟩ : Ob)) te50 zz67 S17 rfl rfl rfl (by simp [Value.cells, length_bL, nameI_len]) (by simp [Value.cells, plO, Ob.id]; rfl) rfl rfl rfl fun b18 w18 l18 S18 => ?_))))); have q18 := l18; refine ⟨q18, (ZB_c rfl (o_app te50 S18 1 rfl rfl rfl (by first | exact S18.row 6 rfl | exact S18.row 8 rfl) (fun u hu => plO_one _ u hu) rfl (by omega) (by omega) fun A19 c19 w19 S19 => ?_))⟩; have S19d := S19.drop (rs' := [_, _, _, _, _, _, _, _]) (.cons_cons _ (.cons_cons _ (.cons_cons _ (.cons_cons _ (.cons_cons _ (.cons_cons _ (.cons_cons _ (.cons_cons _ (.cons _ (.refl _)))))))))); refine ZA_oy rfl (y_nilp rfl) rfl (ZA_oy rfl (y_fieldA 2 Tryz.underlying113 rfl sz50 rfl rfl rfl) rfl (ZA_o rfl (o_st1 S19d 3 rfl rfl rfl rfl sz50 (by simp; done) fun w20 S20 => ?_))); refine ZA_nil (hK13 _ _ (T_region (L_y (y_move rfl) rfl (L_y (y_move rfl) rfl (L_y (y_nilp rfl) rfl (L_y (y_fieldA 3 Tryz.underlying113 rfl sz111 rfl rfl rfl) rfl (L_y (y_ldc Tryz.underlying111 rfl rfl (((S20.blk 3 rfl).cell _).trans (by rfl))) rfl ?_))))))); refine L_y (y_move rfl) rfl (L_o (o_bsl [_] te111 zz3 S20 rfl rfl rfl rfl rfl rfl rfl rfl fun b21 w21 S21 => L_o (o_app te111 S21 2 rfl rfl rfl (by first | exact S21.row 6 rfl | exact S21.row 8 rfl) (by first | exact bL_one _ | exact iL_one _ | (intro u hu; simp at hu; subst hu; rfl) | (simp; done) | (simp [Value.oneCell']; done)) rfl (by omega) (by omega) fun A22 c22 w22 S22 => ?_)))
  have S22d := S22.drop (rs' := [_, _, _, _, _, _, _, _]) (.cons_cons _ (.cons_cons _ (.cons_cons _ (.cons_cons _ (.cons_cons _ (.cons_cons _ (.cons_cons _ (.cons_cons _ (.cons _ (.refl _)))))))))); refine L_y (y_nilp rfl) rfl (L_y (y_fieldA 3 Tryz.underlying113 rfl sz111 rfl rfl rfl) rfl (L_o (o_st1 S22d 3 rfl rfl rfl rfl sz111 (by simp; done) fun w23 S23 => ?_))); refine L_nil ?_; first | refine end0 (fn := Tryz.f57) rfl ?_ | (simp only [thenQ, inB, if_true]; refine end0 (fn := Tryz.f57) rfl ?_)
  have hbs : s.bs ++ [UInt8.ofNat x.kind.toNat] ++ vr x.p.n ++ tl (crcL x.p.l).toNat 4 ++ x.p.l = (addV chain s (x.kind, x.p.l)).bs := by unfold addV; rw [lay_w (s := s) (v := (x.kind, x.p.l)) hneg, ← hv]; unfold entB; rw [hxb]; simp only [List.append_assoc, List.nil_append, List.append_nil]
  have hos : (addV chain s (x.kind, x.p.l)).os = s.os ++ [(⟨x.kind, x.p.l, 0, s.bs.length, crcL x.p.l⟩ : Ob)] := by unfold addV; rw [lay_w (s := s) (v := (x.kind, x.p.l)) hneg, ← hv]
  have S80 := S23.sel [0, 1, 2, 3, 7] (by decide); have S81 := S80.rowc 0 rfl (n' := its.length + 1) (xs' := (its ++ [x]).flatMap itf) rfl (by simp); have S82 := S81.rowc 1 rfl (n' := s.os.length + 1) (xs' := (s.os ++ [(⟨x.kind, x.p.l, 0, s.bs.length, crcL x.p.l⟩ : Ob)]).flatMap plO) rfl (by simp); have S83 := S82.rowc 2 rfl (n' := s.os.length + 1) (xs' := (s.os ++ [(⟨x.kind, x.p.l, 0, s.bs.length, crcL x.p.l⟩ : Ob)]).map depV) rfl (by simp [depV]); have S84 := S83.rowc 4 rfl (n' := n11) (xs' := bL (addV chain s (x.kind, x.p.l)).bs) rfl (congrArg bL hbs); have hl1 : (its ++ [x]).length = its.length + 1 := by simp
  have hl2 : (addV chain s (x.kind, x.p.l)).os.length = s.os.length + 1 := by rw [hos]; simp
  have S85 := St.joinL (ps := [_, _, _]) (r := _) (s := _) S84; have S86 : Zx.St w0 _ (pkL g A11 n11 c11 A15 c15 A19 c19 A22 c22 (its ++ [x]) (addV chain s (x.kind, x.p.l))) w23 := S85.cast (by unfold pkL wu; rw [hl1, hl2, hos]; rfl); exact ⟨_, rfl, rfl, _, _, _, _, _, _, _, _, _, S86.turnedL⟩
 ·
  omega
theorem add1 (g : Nat) (A : Option Addr) (n c : Nat) (A1 : Option Addr) (c1 : Nat) (A2 : Option Addr) (c2 : Nat) (A3 : Option Addr) (c3 : Nat) (its : List It) (s : Pk) (x : It) (chain : Int) (w0 : World) (hw : (sepL (pkL g A n c A1 c1 A2 c2 A3 c3 its s)).holds w0) (hio : Same its s.os) (hits : ∀ y ∈ its, OkM w0 (sepL (pkL g A n c A1 c1 A2 c2 A3 c3 its s)).dom y.p) (hsm : ∀ y ∈ its, y.p.n ≤ 300) (hp : OkM w0 (sepL (pkL g A n c A1 c1 A2 c2 A3 c3 its s)).dom x.p) (hp3 : x.p.n ≤ 300) (hk : 1 ≤ x.kind ∧ x.kind ≤ 4) (hc8 : chain ≤ 8) (hbl : s.bs.length ≤ 20000) (hil : its.length ≤ 1000) (hat : ∀ o ∈ s.os, o.at_ ≤ s.bs.length) (k : Nat) (o : Ob) (hr : (toldV s.os chain x.kind x.p.l).1 = (k : Int)) (ho : s.os[k]? = some o) (hod : (o.dep : Int) < chain) :
    Calls Tryz.prog 57 #[.pointer (some ⟨g, 0, none⟩), .agg (itf x).toArray, .agg (bA (nameI x.kind x.p.l)), .int .i64 chain] w0 fun e w' => ∃ u, e = .returned u ∧ u = .tuple #[] ∧ ∃ A' n' c' A1' c1' A2' c2' A3' c3', Turned w0 w' (sepL (pkL g A n c A1 c1 A2 c2 A3 c3 its s)) (sepL (pkL g A' n' c' A1' c1' A2' c2' A3' c3' (its ++ [x]) (addV chain s (x.kind, x.p.l)))) := by
 refine enter1 (env := [(0, .pointer (some ⟨g, 0, none⟩)), (1, .agg (itf x).toArray), (2, .agg (bA (nameI x.kind x.p.l))), (3, .int .i64 chain)]) [.pointer (some ⟨g, 0, none⟩), .agg (itf x).toArray, .agg (bA (nameI x.kind x.p.l)), .int .i64 chain] Tryz.func57 rfl Tryz.ntmps57 rfl rfl ?_; have S0 := St.borrowL hw; have hnw := wu_len (S0.get 3 rfl); subst hnw; have hxb := hp.1.lenb; have htl := (told_ok s.os chain x.kind x.p.l).2; have hsl := hio.len; have hkl := (List.getElem?_eq_some_iff.1 ho).1; have hao := hat o (List.mem_of_getElem? ho); have hvb := Oct.vr_len10 (s.bs.length - o.at_) (by omega); have S0 : Zx.St w0 (sepL (pkL g A s.bs.length c A1 c1 A2 c2 A3 c3 its s)).dom [row 65 2 A1 its.length c1 (its.flatMap itf), row 67 34 A2 s.os.length c2 (s.os.flatMap plO), row 3 1 A3 s.os.length c3 (s.os.map depV), wu (.slice A1 its.length c1) (.slice A2 s.os.length c2) (.slice A3 s.os.length c3) g A s.bs.length c s.bs] w0 := S0; refine T_seq fun K1 hK1 => T_region (L_o (o_box rfl S0 rfl fun b1 w1 hb1 S1 => L_o (o_box rfl S1 rfl fun b2 w2 hb2 S2 => L_nil (hK1 _ _ (T_seq fun K2 hK2 => T_region (L_y (y_move rfl) rfl (L_y (y_nilp rfl) rfl (L_y (y_fieldA 0 Tryz.underlying113 rfl sz110 rfl rfl rfl) rfl (L_o (o_call Tryz.func58 rfl rfl (wlenW g A s.bs.length c s.bs w2 (S2.get 3 rfl)) rfl rfl ?_)))))))))); rintro e3 w3 ⟨v3, rfl, l3, rfl⟩; refine ⟨_, rfl, (have S3 := S2.like l3; L_y (y_assign rfl) rfl (L_nil (hK2 _ _ (T_seq fun K3 hK3 => T_region (L_y (y_move rfl) rfl (L_y (y_ldW Tryz.underlying65 rfl sz65 rfl (S3.blk 4 rfl) (show _ = itf x ∧ _ from ⟨rfl, rfl⟩)) rfl (L_y (y_move rfl) rfl (L_o (o_call Tryz.func90 rfl rfl (shortest g _ _ A1 its.length c1 A3 s.os.length c3 its s.os x.kind chain x.p w3 (S3.get 3 rfl).1 (S3.row 0 rfl) (S3.row 2 rfl) hio (by omega) (St.okI S3 hits) (fun y hy => (hsm y hy)) (St.okM S3 hp) hp3) rfl rfl ?_)))))))))⟩; rintro e4 w4 ⟨v4, rfl, l4, q, rfl, hq⟩; refine ⟨_, rfl, ?_⟩; have S4 := S3.adoptF l4 (q_fr hq (by omega)); have hv := hq.val; rw [← hv] at htl; have hqn := hq.ok.lenb; have hva := Oct.vr_len10 q.n (by omega); refine L_y (y_move rfl) rfl (L_y (y_extract rfl rfl) rfl (L_y (y_extract rfl rfl) rfl (L_y (y_assign rfl) rfl (L_y (y_assign rfl) rfl (L_nil (hK3 _ _ (T_seq fun K4 hK4 => T_region (L_y (y_assign rfl) rfl (L_nil (hK4 _ _ (T_seq fun K5 hK5 => T_seq fun K6 hK6 => ?_))))))))))); refine T_region (L_y (y_move rfl) rfl (L_y (y_lss rfl rfl) rfl (L_nil (hK6 _ _ ?_)))); refine T_cond rfl (fun h25 => ?_) (fun h25 => ?_)
 ·
  omega
 ·
  refine T_seq fun K7 hK7 => T_region (L_y (y_move rfl) rfl (L_y (y_nilp rfl) rfl (L_y (y_fieldA 3 Tryz.underlying113 rfl sz111 rfl rfl rfl) rfl (L_y (y_ldc Tryz.underlying111 rfl rfl (((S4.get 3 rfl).1.cell _).trans (by rfl))) rfl ?_)))); refine L_y (y_move rfl) rfl (L_y (y_idx Tryz.underlying111 sz3 rfl rfl (S4.row 2 rfl) (Nt.mk (by omega) : Nt _ (k)) (by omega)) rfl (L_y (y_ldr Tryz.underlying3 rfl rfl (S4.row 2 rfl) (dep_get ho)) rfl (L_y (y_add rfl rfl (i64w (by omega))) rfl (L_y (y_assign rfl) rfl (L_nil (hK7 _ _ (T_seq fun K8 hK8 => T_region (L_y (y_move rfl) rfl (L_y (y_nilp rfl) rfl (L_y (y_fieldA 0 Tryz.underlying113 rfl sz110 rfl rfl rfl) rfl (L_o (o_call Tryz.func89 rfl rfl (wbyteW g A s.bs.length c (s.bs) 5 w4 (S4.get 3 rfl) (by first | omega | (simp only [List.length_append, List.length_cons, List.length_nil, length_tl]; omega))) rfl rfl ?_)))))))))))); rintro e5 w5 ⟨v5, rfl, A5, n5, c5, T5⟩; refine ⟨_, rfl, (have S5 := S4.turn 3 rfl T5; L_nil (hK8 _ _ (T_seq fun K9 hK9 => T_region (L_y (y_move rfl) rfl (L_y (y_nilp rfl) rfl (L_y (y_fieldA 0 Tryz.underlying113 rfl sz110 rfl rfl rfl) rfl (L_y (y_move rfl) rfl (L_y (y_len Tryz.underlying22 rfl) rfl (L_y (y_conv is3 Tryz.underlying102 rfl (u64w (by omega))) rfl (L_o (o_call Tryz.func91 rfl rfl (wvarW g A5 n5 c5 (s.bs ++ [5]) q.n w5 (S5.get 3 rfl) (by omega) (by first | omega | (simp only [List.length_append, List.length_cons, List.length_nil, length_tl]; omega))) rfl rfl ?_)))))))))))⟩; rintro e6 w6 ⟨v6, rfl, A6, n6, c6, T6⟩; refine ⟨_, rfl, (have S6 := S5.turn 3 rfl T6; L_nil (hK9 _ _ (T_tail 14 hmix (by kernel_rfl) fun w7 l7 K10 hK10 => have S7 := S6.like l7; HL_y (y_move rfl) rfl (HL_y (y_nilp rfl) rfl (HL_y (y_fieldA 0 Tryz.underlying113 rfl sz110 rfl rfl rfl) rfl (HL_y (y_move rfl) rfl (HL_y (y_move rfl) rfl (HL_y (y_nilp rfl) rfl (HL_y (y_fieldA 2 Tryz.underlying113 rfl sz50 rfl rfl rfl) rfl (HL_y (y_ldc Tryz.underlying50 rfl rfl (((S7.get 3 rfl).1.cell _).trans (by rfl))) rfl ?_))))))))))⟩; refine HL_y (y_move rfl) rfl (HL_y (y_idx Tryz.underlying50 sz67 rfl rfl (S7.row 1 rfl) (Nt.mk (by omega) : Nt _ (k)) (by omega)) rfl (HL_y (y_fieldR 32 Tryz.underlying67 rfl sz3 rfl rfl (S7.row 1 rfl) (by omega) rfl) rfl (HL_y (y_ldf Tryz.underlying3 rfl rfl (S7.row 1 rfl) (by omega) ((flat_at plO 34 plO_len s.os k o ho 32 (by omega)).trans (plOl32 o))) rfl (HL_y (y_sub rfl rfl (i64w (by omega))) rfl (HL_y (y_conv is3 Tryz.underlying102 rfl (subU (by omega) (by omega))) rfl (HL_nil (hK10 _ (L_o (o_call Tryz.func91 rfl rfl (wvarW g A6 n6 c6 (s.bs ++ [5] ++ vr q.n) (s.bs.length - o.at_) w7 (S7.get 3 rfl) (by omega) (by first | omega | (simp only [List.length_append, List.length_cons, List.length_nil, length_tl]; omega))) rfl rfl ?_))))))))); rintro e8 w8 ⟨v8, rfl, A8, n8, c8, T8⟩; refine ⟨_, rfl, (have S8 := S7.turn 3 rfl T8; L_nil (hK5 _ _ (T_seq fun K11 hK11 => T_region (L_y (y_move rfl) rfl (L_o (o_bsl [_] te155 zz22 S8 rfl rfl rfl rfl rfl rfl rfl rfl fun b9 w9 S9 => L_o (o_call Tryz.func92 rfl rfl (of_ _ _ _ [q] w9 (S9.row 7 rfl) (fun y hy => by obtain rfl := List.mem_singleton.1 hy; exact (S9.fix 6 rfl))) rfl rfl ?_)))))))⟩
  rintro e10 w10 ⟨v10, rfl, l10, rfl⟩; refine ⟨_, rfl, (have S10 := S9.like l10; L_y (y_assign rfl) rfl (L_nil (hK11 _ _ (T_seq fun K12 hK12 => T_region (L_y (y_move rfl) rfl (L_y (y_nilp rfl) rfl (L_y (y_fieldA 0 Tryz.underlying113 rfl sz110 rfl rfl rfl) rfl (L_y (y_move rfl) rfl (L_o (o_call Tryz.func56 rfl rfl (wu32W g A8 n8 c8 (s.bs ++ [5] ++ vr q.n ++ vr (s.bs.length - o.at_)) (crcL q.l).toNat w10 (S10.get 3 rfl) (by have := (crcL q.l).toNat_lt; omega) (by first | omega | (simp only [List.length_append, List.length_cons, List.length_nil, length_tl]; omega))) rfl rfl ?_))))))))))⟩; rintro e11 w11 ⟨v11, rfl, A11, n11, c11, T11⟩; refine ⟨_, rfl, (have S11 := S10.turn 3 rfl T11; L_nil (hK12 _ _ (T_seq fun K13 hK13 => T_region (L_y (y_move rfl) rfl (L_y (y_nilp rfl) rfl (L_y (y_fieldA 0 Tryz.underlying113 rfl sz110 rfl rfl rfl) rfl (L_y (y_move rfl) rfl (L_o (o_call Tryz.func55 rfl rfl (wrawW g A11 n11 c11 (s.bs ++ [5] ++ vr q.n ++ vr (s.bs.length - o.at_) ++ tl (crcL q.l).toNat 4) q.A q.n q.c q.l w11 (S11.get 3 rfl) (S11.fix 6 rfl) (by first | omega | (simp only [List.length_append, List.length_cons, List.length_nil, length_tl]; omega))) rfl rfl ?_)))))))))⟩; rintro e12 w12 ⟨v12, rfl, A12, n12, c12, T12⟩; refine ⟨_, rfl, (have S12 := S11.turn 3 rfl T12; L_nil (hK13 _ _ (T_seq fun K14 hK14 => have S13 := S12.splitAt 3 rfl (wu_apart (S12.get 3 rfl)); T_zed [1, 2, 3, 4, 5, 6] 7 [(0, 0), (1, 1), (2, 1), (3, 1), (4, 1), (5, 1), (6, 2), (7, 3), (8, 3), (9, 3), (10, 3)] hmix (by kernel_rfl) fun w14 l14 => have S14 := S13.like l14; ZA_y rfl (y_move rfl) rfl (ZA_B (Like w14) (Like.refl _) (ZB_y rfl (y_move rfl) rfl (ZB_y rfl (y_nilp rfl) rfl (ZB_y rfl (y_fieldA 1 Tryz.underlying113 rfl sz48 rfl rfl rfl) rfl (ZB_y rfl (y_ldc Tryz.underlying48 rfl rfl (((S14.blk 3 rfl).cell _).trans (by rfl))) rfl ?_))))))))⟩; refine ZB_y rfl (y_ldW Tryz.underlying65 rfl sz65 rfl (S14.blk 4 rfl) (show _ = itf x ∧ _ from ⟨rfl, rfl⟩)) rfl (ZB_o rfl (o_bslL (itf x) te48 zz65 S14 rfl rfl rfl rfl (by simp [Value.cells]) rfl rfl rfl fun b15 w15 l15 S15 => ?_)); have q15 := l15; refine ⟨q15, (ZB_c rfl (o_app te48 S15 0 rfl rfl rfl (by first | exact S15.row 7 rfl | exact S15.row 9 rfl) (fun u hu => itf_one x u hu) rfl (by omega) (by omega) fun A16 c16 w16 S16 => ?_))⟩; have S16d := S16.drop (rs' := [_, _, _, _, _, _, _, _, _]) (.cons_cons _ (.cons_cons _ (.cons_cons _ (.cons_cons _ (.cons_cons _ (.cons_cons _ (.cons_cons _ (.cons_cons _ (.cons_cons _ (.cons _ (.refl _))))))))))); refine ZA_oy rfl (y_nilp rfl) rfl (ZA_oy rfl (y_fieldA 1 Tryz.underlying113 rfl sz48 rfl rfl rfl) rfl (ZA_o rfl (o_st1 S16d 3 rfl rfl rfl rfl sz48 (by simp; done) fun w17 S17 => ?_))); refine ZA_nil (hK14 _ _ (T_seq fun K15 hK15 => T_zed [1, 2, 3, 4, 5, 6, 7, 8, 9] 10 [(0, 0), (1, 1), (2, 1), (3, 1), (4, 1), (5, 1), (6, 1), (7, 1), (8, 1), (9, 2), (10, 3), (11, 3), (12, 3), (13, 3)] hmix (by kernel_rfl) fun w18 l18 => have S18 := S17.like l18; ZA_y rfl (y_move rfl) rfl (ZA_B (Like w18) (Like.refl _) (ZB_y rfl (y_move rfl) rfl (ZB_y rfl (y_nilp rfl) rfl (ZB_y rfl (y_fieldA 2 Tryz.underlying113 rfl sz50 rfl rfl rfl) rfl (ZB_y rfl (y_ldc Tryz.underlying50 rfl rfl (((S18.blk 3 rfl).cell _).trans (by rfl))) rfl ?_)))))))
  refine ZB_y rfl (y_ldW Tryz.underlying41 rfl sz41 rfl (S18.blk 5 rfl) (id_part (x.kind, x.p.l))) rfl (ZB_y rfl (y_move rfl) rfl (ZB_y rfl (y_move rfl) rfl (ZB_y rfl (y_build rfl (built_pl (nameI_len _ _) _ _)) rfl (ZB_o rfl (o_bslL (plO (⟨x.kind, x.p.l, o.dep + 1, s.bs.length, crcL q.l⟩ : Ob)) te50 zz67 S18 rfl rfl rfl (by simp [Value.cells, length_bL, nameI_len]) (by simp [Value.cells, plO, Ob.id]; rfl) rfl rfl rfl fun b19 w19 l19 S19 => ?_))))); have q19 := l19; refine ⟨q19, (ZB_c rfl (o_app te50 S19 1 rfl rfl rfl (by first | exact S19.row 7 rfl | exact S19.row 9 rfl) (fun u hu => plO_one _ u hu) rfl (by omega) (by omega) fun A20 c20 w20 S20 => ?_))⟩; have S20d := S20.drop (rs' := [_, _, _, _, _, _, _, _, _]) (.cons_cons _ (.cons_cons _ (.cons_cons _ (.cons_cons _ (.cons_cons _ (.cons_cons _ (.cons_cons _ (.cons_cons _ (.cons_cons _ (.cons _ (.refl _))))))))))); refine ZA_oy rfl (y_nilp rfl) rfl (ZA_oy rfl (y_fieldA 2 Tryz.underlying113 rfl sz50 rfl rfl rfl) rfl (ZA_o rfl (o_st1 S20d 3 rfl rfl rfl rfl sz50 (by simp; done) fun w21 S21 => ?_))); refine ZA_nil (hK15 _ _ (T_region (L_y (y_move rfl) rfl (L_y (y_move rfl) rfl (L_y (y_nilp rfl) rfl (L_y (y_fieldA 3 Tryz.underlying113 rfl sz111 rfl rfl rfl) rfl (L_y (y_ldc Tryz.underlying111 rfl rfl (((S21.blk 3 rfl).cell _).trans (by rfl))) rfl ?_))))))); refine L_y (y_move rfl) rfl (L_o (o_bsl [_] te111 zz3 S21 rfl rfl rfl rfl rfl rfl rfl rfl fun b22 w22 S22 => L_o (o_app te111 S22 2 rfl rfl rfl (by first | exact S22.row 7 rfl | exact S22.row 9 rfl) (by first | exact bL_one _ | exact iL_one _ | (intro u hu; simp at hu; subst hu; rfl) | (simp; done) | (simp [Value.oneCell']; done)) rfl (by omega) (by omega) fun A23 c23 w23 S23 => ?_))); have S23d := S23.drop (rs' := [_, _, _, _, _, _, _, _, _]) (.cons_cons _ (.cons_cons _ (.cons_cons _ (.cons_cons _ (.cons_cons _ (.cons_cons _ (.cons_cons _ (.cons_cons _ (.cons_cons _ (.cons _ (.refl _))))))))))); refine L_y (y_nilp rfl) rfl (L_y (y_fieldA 3 Tryz.underlying113 rfl sz111 rfl rfl rfl) rfl (L_o (o_st1 S23d 3 rfl rfl rfl rfl sz111 (by simp; done) fun w24 S24 => ?_))); refine L_nil ?_; first | refine end0 (fn := Tryz.f57) rfl ?_ | (simp only [thenQ, inB, if_true]; refine end0 (fn := Tryz.f57) rfl ?_)
  have hbs : s.bs ++ [5] ++ vr q.n ++ vr (s.bs.length - o.at_) ++ tl (crcL q.l).toNat 4 ++ q.l = (addV chain s (x.kind, x.p.l)).bs := by unfold addV; rw [lay_m (s := s) (v := (x.kind, x.p.l)) hr ho, ← hv]; unfold entB; rw [hqn]; simp only [List.append_assoc, List.nil_append, List.append_nil]
  have hos : (addV chain s (x.kind, x.p.l)).os = s.os ++ [(⟨x.kind, x.p.l, o.dep + 1, s.bs.length, crcL q.l⟩ : Ob)] := by unfold addV; rw [lay_m (s := s) (v := (x.kind, x.p.l)) hr ho, ← hv]
  have S80 := S24.sel [0, 1, 2, 3, 8] (by decide); have S81 := S80.rowc 0 rfl (n' := its.length + 1) (xs' := (its ++ [x]).flatMap itf) rfl (by simp); have S82 := S81.rowc 1 rfl (n' := s.os.length + 1) (xs' := (s.os ++ [(⟨x.kind, x.p.l, o.dep + 1, s.bs.length, crcL q.l⟩ : Ob)]).flatMap plO) rfl (by simp); have S83 := S82.rowc 2 rfl (n' := s.os.length + 1) (xs' := (s.os ++ [(⟨x.kind, x.p.l, o.dep + 1, s.bs.length, crcL q.l⟩ : Ob)]).map depV) rfl (by simp [depV]); have S84 := S83.rowc 4 rfl (n' := n12) (xs' := bL (addV chain s (x.kind, x.p.l)).bs) rfl (congrArg bL hbs); have hl1 : (its ++ [x]).length = its.length + 1 := by simp
  have hl2 : (addV chain s (x.kind, x.p.l)).os.length = s.os.length + 1 := by rw [hos]; simp
  have S85 := St.joinL (ps := [_, _, _]) (r := _) (s := _) S84; have S86 : Zx.St w0 _ (pkL g A12 n12 c12 A16 c16 A20 c20 A23 c23 (its ++ [x]) (addV chain s (x.kind, x.p.l))) w24 := S85.cast (by unfold pkL wu; rw [hl1, hl2, hos]; rfl); exact ⟨_, rfl, rfl, _, _, _, _, _, _, _, _, _, S86.turnedL⟩
end Go.Proofs.YtgaklngnfecdaaaGreat.Pak
namespace Go.Proofs.YtgaklngnfecdaaaGreat.Pak
open Go.RowKit Zk Zx
open Sha (N)
open Oct (vaN rwL rwP rwE rnL rnP rnE be tkP tkE numF)
structure EV where
  kind : Int
  base : Int
  fin : Nat
  sum : UInt32
  load : List UInt8
def zE : EV := ⟨0, 0, 0, 0, []⟩
def opR (t : List UInt8) (at_ : Nat) (kind base : Int) (size : Nat) (p q : Nat) : Int × EV :=
  if rnE t (rwP t p q 4) (rwE t p q 4) (size : Int) ≠ 0 then ((rnE t (rwP t p q 4) (rwE t p q 4) (size : Int) : Int), zE)
  else if (crcL (rnL t (rwP t p q 4) (rwE t p q 4) (size : Int))).toNat ≠ be (rwL t p q 4) then (13, zE)
  else (0, ⟨kind, base, at_ + rnP t (rwP t p q 4) (rwE t p q 4) (size : Int), crcL (rnL t (rwP t p q 4) (rwE t p q 4) (size : Int)), rnL t (rwP t p q 4) (rwE t p q 4) (size : Int)⟩)
def opM (t : List UInt8) (at_ : Nat) (deep : Bool) (size p q : Nat) : Int × EV :=
  if (vaN t p q 1048576).2.2 = 0 ∧ ((vaN t p q 1048576).1 = 0 ∨ (at_ : Int) - (vaN t p q 1048576).1 < 12) then (21, zE)
  else if (vaN t p q 1048576).2.2 = 0 ∧ deep = true then (20, zE)
  else opR t at_ 5 ((at_ : Int) - (vaN t p q 1048576).1) size (vaN t p q 1048576).2.1 (vaN t p q 1048576).2.2
def opT (t : List UInt8) (x : UInt8) (at_ : Nat) (deep : Bool) : Int × EV :=
  if x.toNat < 1 ∨ 5 < x.toNat then (19, zE)
  else if x.toNat = 5 then opM t at_ deep (vaN t 1 0 4000).1 (vaN t 1 0 4000).2.1 (vaN t 1 0 4000).2.2
  else opR t at_ (x.toNat : Int) 0 (vaN t 1 0 4000).1 (vaN t 1 0 4000).2.1 (vaN t 1 0 4000).2.2
def tailB (b : List UInt8) (at_ : Nat) : List UInt8 := (b.drop at_).take (b.length - 32 - at_)
def opV (b : List UInt8) (at_ : Int) (deep : Bool) : Int × EV :=
  if b.length < 44 then (10, zE) else if at_ < 12 ∨ (b.length : Int) - 32 ≤ at_ then (2, zE)
  else opT (tailB b at_.toNat) (b[at_.toNat]?.getD 0) at_.toNat deep
section
variable {b : List UInt8} {at_ : Int} {deep : Bool}
theorem opV_10 (h : b.length < 44) : opV b at_ deep = (10, zE) := by unfold opV; rw [if_pos h]
theorem opV_2 (h : ¬ b.length < 44) (h2 : at_ < 12 ∨ (b.length : Int) - 32 ≤ at_) : opV b at_ deep = (2, zE) := by unfold opV; rw [if_neg h, if_pos h2]
theorem opV_t (h : ¬ b.length < 44) (h2 : ¬ (at_ < 12 ∨ (b.length : Int) - 32 ≤ at_)) {x : UInt8} (hx : b[at_.toNat]? = some x) : opV b at_ deep = opT (tailB b at_.toNat) x at_.toNat deep := by unfold opV; rw [if_neg h, if_neg h2, hx]; rfl
theorem tailB_len {n : Nat} (h : ¬ b.length < 44) (h2 : n < b.length - 32) : (tailB b n).length = b.length - 32 - n := by unfold tailB; rw [List.length_take, List.length_drop]; omega
theorem tailB_0 {n : Nat} (h : ¬ b.length < 44) (h2 : n < b.length - 32) : (tailB b n)[0]? = b[n]? := by
  unfold tailB
  rw [List.getElem?_take, if_pos (by omega), List.getElem?_drop, Nat.add_zero]
end
section
variable {t : List UInt8} {at_ : Nat} {deep : Bool} {x : UInt8} {size p q : Nat} {kind base : Int}
theorem opT_19 (h : x.toNat < 1 ∨ 5 < x.toNat) : opT t x at_ deep = (19, zE) := by unfold opT; rw [if_pos h]
theorem opT_5 (h : x.toNat = 5) : opT t x at_ deep = opM t at_ deep (vaN t 1 0 4000).1 (vaN t 1 0 4000).2.1 (vaN t 1 0 4000).2.2 := by unfold opT; rw [if_neg (by omega), if_pos h]
theorem opT_w (h : ¬ (x.toNat < 1 ∨ 5 < x.toNat)) (h5 : x.toNat ≠ 5) : opT t x at_ deep = opR t at_ (x.toNat : Int) 0 (vaN t 1 0 4000).1 (vaN t 1 0 4000).2.1 (vaN t 1 0 4000).2.2 := by unfold opT; rw [if_neg h, if_neg h5]
theorem opM_21 (h : (vaN t p q 1048576).2.2 = 0) (h2 : (vaN t p q 1048576).1 = 0 ∨ (at_ : Int) - (vaN t p q 1048576).1 < 12) : opM t at_ deep size p q = (21, zE) := by unfold opM; rw [if_pos ⟨h, h2⟩]
theorem opM_20 (h : (vaN t p q 1048576).2.2 = 0) (h2 : ¬ ((vaN t p q 1048576).1 = 0 ∨ (at_ : Int) - (vaN t p q 1048576).1 < 12)) (h3 : deep = true) : opM t at_ deep size p q = (20, zE) := by unfold opM; rw [if_neg (fun q => h2 q.2), if_pos ⟨h, h3⟩]
theorem opM_r (h : (vaN t p q 1048576).2.2 ≠ 0 ∨ (¬ ((vaN t p q 1048576).1 = 0 ∨ (at_ : Int) - (vaN t p q 1048576).1 < 12) ∧ deep = false)) : opM t at_ deep size p q = opR t at_ 5 ((at_ : Int) - (vaN t p q 1048576).1) size (vaN t p q 1048576).2.1 (vaN t p q 1048576).2.2 := by
  unfold opM
  rw [if_neg (fun q => h.elim (fun r => r q.1) (fun r => r.1 q.2)), if_neg (fun q => h.elim (fun r => r q.1) (fun r => by rw [r.2] at q; cases q.2))]
theorem opR_e (h : rnE t (rwP t p q 4) (rwE t p q 4) (size : Int) ≠ 0) : opR t at_ kind base size p q = ((rnE t (rwP t p q 4) (rwE t p q 4) (size : Int) : Int), zE) := by unfold opR; rw [if_pos h]
theorem opR_13 (h : rnE t (rwP t p q 4) (rwE t p q 4) (size : Int) = 0) (h2 : (crcL (rnL t (rwP t p q 4) (rwE t p q 4) (size : Int))).toNat ≠ be (rwL t p q 4)) : opR t at_ kind base size p q = (13, zE) := by unfold opR; rw [if_neg (fun q => q h), if_pos h2]
theorem opR_ok (h : rnE t (rwP t p q 4) (rwE t p q 4) (size : Int) = 0) (h2 : ¬ (crcL (rnL t (rwP t p q 4) (rwE t p q 4) (size : Int))).toNat ≠ be (rwL t p q 4)) : opR t at_ kind base size p q = (0, ⟨kind, base, at_ + rnP t (rwP t p q 4) (rwE t p q 4) (size : Int), crcL (rnL t (rwP t p q 4) (rwE t p q 4) (size : Int)), rnL t (rwP t p q 4) (rwE t p q 4) (size : Int)⟩) := by unfold opR; rw [if_neg (fun q => q h), if_neg h2]
theorem rwE_dead {k : Nat} (h : q ≠ 0) : rwE t p q k = q := by unfold rwE; rw [if_neg h]
theorem rnE_dead {m : Int} (h : q ≠ 0) : rnE t p q m = q := by
  unfold rnE
  split
  · first | rfl | rw [if_pos h]
  · exact rwE_dead h
theorem rnL_len (m : Nat) : (rnL t p q (m : Int)).length ≤ m := by
  unfold rnL
  rw [if_neg (by omega)]
  exact Oct.rw_le _ _ _ _
theorem opR_all : (opR t at_ kind base size p q).1 = 0 → q = 0 ∧ (opR t at_ kind base size p q).2.kind = kind ∧ (opR t at_ kind base size p q).2.base = base ∧ (opR t at_ kind base size p q).2.load.length ≤ size ∧ (opR t at_ kind base size p q).2.sum = crcL (opR t at_ kind base size p q).2.load := by
  by_cases h : rnE t (rwP t p q 4) (rwE t p q 4) (size : Int) = 0
  · have hq : q = 0 := Classical.byContradiction fun hq => by
      rw [rwE_dead hq, rnE_dead hq] at h
      exact hq h
    by_cases h2 : (crcL (rnL t (rwP t p q 4) (rwE t p q 4) (size : Int))).toNat ≠ be (rwL t p q 4)
    · rw [opR_13 h h2]; intro h3; exact absurd h3 (by decide)
    · rw [opR_ok h h2]
      exact fun _ => ⟨hq, rfl, rfl, rnL_len _, rfl⟩
  · rw [opR_e h]
    intro h3
    exact absurd h3 (by show ((rnE t (rwP t p q 4) (rwE t p q 4) (size : Int) : Nat) : Int) ≠ 0; omega)
end
theorem vaN_m (d : List UInt8) (p q m : Nat) : (vaN d p q m).1 ≤ m := by
  unfold vaN
  repeat' split
  all_goals (dsimp only; omega)
structure EOk (at_ : Int) (deep : Bool) (x : EV) : Prop where
  k1 : 1 ≤ x.kind
  k5 : x.kind ≤ 5
  len : x.load.length ≤ 4000
  sum : x.sum = crcL x.load
  base : x.kind = 5 → 12 ≤ x.base ∧ x.base < at_ ∧ deep = false
theorem opT_ok {t : List UInt8} {x : UInt8} {at_ : Nat} {deep : Bool} (h : (opT t x at_ deep).1 = 0) : EOk (at_ : Int) deep (opT t x at_ deep).2 := by
  by_cases h1 : x.toNat < 1 ∨ 5 < x.toNat
  · rw [opT_19 h1] at h; exact absurd h (by decide)
  · have hs := vaN_m t 1 0 4000
    by_cases h5 : x.toNat = 5
    · rw [opT_5 h5] at h ⊢
      by_cases g1 : (vaN t (vaN t 1 0 4000).2.1 (vaN t 1 0 4000).2.2 1048576).2.2 = 0
      · by_cases g2 : (vaN t (vaN t 1 0 4000).2.1 (vaN t 1 0 4000).2.2 1048576).1 = 0 ∨ (at_ : Int) - (vaN t (vaN t 1 0 4000).2.1 (vaN t 1 0 4000).2.2 1048576).1 < 12
        · rw [opM_21 g1 g2] at h; exact absurd h (by decide)
        · cases hd : deep with
          | true => rw [opM_20 g1 g2 hd] at h; exact absurd h (by decide)
          | false =>
            rw [hd] at h
            rw [opM_r (.inr ⟨g2, rfl⟩)] at h ⊢
            obtain ⟨_, e1, e2, e3, e4⟩ := opR_all h
            exact ⟨by omega, by omega, by omega, e4, fun _ => by rw [e2]; exact ⟨by omega, by omega, rfl⟩⟩
      · rw [opM_r (.inl g1)] at h
        exact absurd (opR_all h).1 g1
    · rw [opT_w h1 h5] at h ⊢
      obtain ⟨_, e1, e2, e3, e4⟩ := opR_all h
      exact ⟨by omega, by omega, by omega, e4, fun q => by omega⟩
theorem opV_ok {b : List UInt8} {at_ : Int} {deep : Bool} (h : (opV b at_ deep).1 = 0) : EOk at_ deep (opV b at_ deep).2 ∧ 12 ≤ at_ ∧ at_ < (b.length : Int) - 32 ∧ ¬ b.length < 44 := by
  by_cases h1 : b.length < 44
  · rw [opV_10 h1] at h; exact absurd h (by decide)
  · by_cases h2 : at_ < 12 ∨ (b.length : Int) - 32 ≤ at_
    · rw [opV_2 h1 h2] at h; exact absurd h (by decide)
    · have e : b[at_.toNat]? = some (b[at_.toNat]?.getD 0) := by
        rw [List.getElem?_eq_getElem (by omega)]; rfl
      rw [opV_t h1 h2 e] at h ⊢
      have h3 := opT_ok h
      rw [Int.toNat_of_nonneg (by omega)] at h3
      exact ⟨h3, by omega, by omega, h1⟩
def aplO (ld : List UInt8) (r : Int × List UInt8 × Int) : Int × List UInt8 × Int :=
  if r.2.2 ≠ 0 then (0, [], r.2.2)
  else if (Del.readV ld).2.2.2 ≠ 0 then (0, [], (Del.readV ld).2.2.2)
  else if (Del.aplR r.2.1 (Del.readV ld).1 (Del.readV ld).2.1 (Del.readV ld).2.2.1).2 ≠ 0 then (0, [], (Del.aplR r.2.1 (Del.readV ld).1 (Del.readV ld).2.1 (Del.readV ld).2.2.1).2)
  else (r.1, (Del.aplR r.2.1 (Del.readV ld).1 (Del.readV ld).2.1 (Del.readV ld).2.2.1).1, 0)
section
variable {ld : List UInt8} {r : Int × List UInt8 × Int} {e : Int}
theorem aplO_1 (h : r.2.2 = e) (he : e ≠ 0) : aplO ld r = (0, [], e) := by subst h; unfold aplO; rw [if_pos he]
theorem aplO_2 (h : r.2.2 = 0) (h2 : (Del.readV ld).2.2.2 ≠ 0) : aplO ld r = (0, [], (Del.readV ld).2.2.2) := by unfold aplO; rw [if_neg (fun q => q h), if_pos h2]
theorem aplO_3 (h : r.2.2 = 0) (h2 : (Del.readV ld).2.2.2 = 0) (h3 : (Del.aplR r.2.1 (Del.readV ld).1 (Del.readV ld).2.1 (Del.readV ld).2.2.1).2 ≠ 0) : aplO ld r = (0, [], (Del.aplR r.2.1 (Del.readV ld).1 (Del.readV ld).2.1 (Del.readV ld).2.2.1).2) := by unfold aplO; rw [if_neg (fun q => q h), if_neg (fun q => q h2), if_pos h3]
theorem aplO_4 (h : r.2.2 = 0) (h2 : (Del.readV ld).2.2.2 = 0) (h3 : (Del.aplR r.2.1 (Del.readV ld).1 (Del.readV ld).2.1 (Del.readV ld).2.2.1).2 = 0) : aplO ld r = (r.1, (Del.aplR r.2.1 (Del.readV ld).1 (Del.readV ld).2.1 (Del.readV ld).2.2.1).1, 0) := by unfold aplO; rw [if_neg (fun q => q h), if_neg (fun q => q h2), if_neg (fun q => q h3)]
end
def rdF (b : List UInt8) : Nat → Int → Int × List UInt8 × Int
  | 0, at_ => if (opV b at_ true).1 ≠ 0 then (0, [], (opV b at_ true).1) else ((opV b at_ true).2.kind, (opV b at_ true).2.load, 0)
  | f + 1, at_ => if (opV b at_ false).1 ≠ 0 then (0, [], (opV b at_ false).1) else if (opV b at_ false).2.kind = 5 then aplO (opV b at_ false).2.load (rdF b f (opV b at_ false).2.base) else ((opV b at_ false).2.kind, (opV b at_ false).2.load, 0)
def rest (b : List UInt8) (f : Nat) (x : EV) : Int × List UInt8 × Int := if x.kind = 5 then aplO x.load (rdF b f x.base) else (x.kind, x.load, 0)
theorem rdF_e {b : List UInt8} {f : Nat} {at_ : Int} {e : Int} (h : (opV b at_ (f == 0)).1 = e) (he : e ≠ 0) : rdF b f at_ = (0, [], e) := by
  subst h
  cases f with
  | zero => unfold rdF; exact if_pos he
  | succ f => unfold rdF; exact if_pos he
theorem rdF_ok {b : List UInt8} {f : Nat} {at_ : Int} (h : (opV b at_ (f == 0)).1 = 0) : rdF b f at_ = rest b (f - 1) (opV b at_ (f == 0)).2 := by
  cases f with
  | zero =>
    have hk := (opV_ok h).1
    have h5 : (opV b at_ (0 == 0)).2.kind ≠ 5 := fun q => by have := (hk.base q).2.2; cases this
    unfold rdF rest
    rw [if_neg (fun q => q h), if_neg h5]
    rfl
  | succ f =>
    have h2 : (f + 1 == 0) = false := rfl
    rw [h2] at h ⊢
    unfold rest
    conv => lhs; unfold rdF
    rw [if_neg (fun q => q h)]
    rfl
def readP (b : List UInt8) (at_ : Int) : Int × List UInt8 × Int := rdF b 8 at_
theorem foldr_snoc (ls : List (List UInt8)) (ld : List UInt8) (r : Int × List UInt8 × Int) : (ls ++ [ld]).foldr aplO r = ls.foldr aplO (aplO ld r) := by simp
theorem foldr_err (ls : List (List UInt8)) {e : Int} (he : e ≠ 0) : ls.foldr aplO (0, [], e) = (0, [], e) := by
  induction ls with
  | nil => rfl
  | cons x ls ih => rw [List.foldr_cons, ih]; exact aplO_1 rfl he
section
variable {d t : List UInt8} {a : Nat}
theorem drop_shift (h : t = d.drop a) (p : Nat) : d.drop (a + p) = t.drop p := by rw [h, List.drop_drop]
theorem len_shift (h : t = d.drop a) (p : Nat) : d.length - (a + p) = t.length - p := by rw [h, List.length_drop]; omega
theorem vaN_shift (h : t = d.drop a) (p q m : Nat) : vaN d (a + p) q m = ((vaN t p q m).1, a + (vaN t p q m).2.1, (vaN t p q m).2.2) := by
  unfold vaN
  rw [drop_shift h]
  repeat' split
  all_goals first | rfl | (rw [Nat.add_assoc])
theorem rw_shift (h : t = d.drop a) (p q k : Nat) : rwL d (a + p) q k = rwL t p q k ∧ rwP d (a + p) q k = a + rwP t p q k ∧ rwE d (a + p) q k = rwE t p q k := by
  unfold rwL rwP rwE Oct.tkL tkP tkE
  rw [drop_shift h, len_shift h]
  refine ⟨rfl, ?_, rfl⟩
  repeat' split
  all_goals first | rfl | (rw [Nat.add_assoc])
theorem rn_shift (h : t = d.drop a) (p q : Nat) (m : Int) : rnL d (a + p) q m = rnL t p q m ∧ rnP d (a + p) q m = a + rnP t p q m ∧ rnE d (a + p) q m = rnE t p q m := by
  obtain ⟨h1, h2, h3⟩ := rw_shift h p q m.toNat
  unfold rnL rnP rnE
  rw [h1, h2, h3]
  refine ⟨rfl, ?_, rfl⟩
  split <;> rfl
end
theorem tail_take {b : List UInt8} {n : Nat} : tailB b n = (b.take (b.length - 32)).drop n := by
  unfold tailB
  rw [List.drop_take]
end Go.Proofs.YtgaklngnfecdaaaGreat.Pak
namespace Go.Proofs.YtgaklngnfecdaaaGreat.Pak
open Go.RowKit Zk Zx
end Go.Proofs.YtgaklngnfecdaaaGreat.Pak
namespace Go.Proofs.YtgaklngnfecdaaaGreat.Pak
open Go.RowKit Zk Zx
open Sha (N)
open Go.Proofs.YtgaklngnfecdaaaGreat.Obj (objE objB nameI nameI_len)
open Oct (vaN rwL rwP rwE rnL rnP rnE be tkP tkE numF vr tl length_tl)
theorem be_tl {v : Nat} (h : v < 4294967296) : be (tl v 4) = v := by
  simp only [tl, be, List.foldl, UInt8.toNat_ofNat']
  omega
theorem rw_at {t r s : List UInt8} {p k : Nat} (h : t.drop p = r ++ s) (hk : r.length = k) : rwL t p 0 k = r ∧ rwP t p 0 k = p + k ∧ rwE t p 0 k = 0 := by
  have hl : k ≤ t.length - p := by
    have := congrArg List.length h
    rw [List.length_drop, List.length_append] at this
    omega
  unfold rwL rwP rwE Oct.tkL tkP tkE
  rw [if_pos rfl, if_pos rfl, if_pos rfl, if_pos hl, if_pos hl, if_pos hl, h]
  exact ⟨by rw [← hk]; simp, rfl, rfl⟩
theorem rn_at {t r s : List UInt8} {p k : Nat} (h : t.drop p = r ++ s) (hk : r.length = k) : rnL t p 0 (k : Int) = r ∧ rnP t p 0 (k : Int) = p + k ∧ rnE t p 0 (k : Int) = 0 := by
  obtain ⟨h1, h2, h3⟩ := Oct.rn_nat t p 0 k
  rw [h1, h2, h3]
  exact rw_at h hk
theorem va_at {t r : List UInt8} {p v m : Nat} (h : t.drop p = vr v ++ r) (hm : v ≤ m) (h64 : v ≤ 18446744073709551615) : vaN t p 0 m = (v, p + (vr v).length, 0) := by
  unfold vaN
  rw [if_neg (by omega), h, Oct.numF_of_vr r v h64, if_neg (by show ¬ (0 : Nat) ≠ 0; omega), if_neg (by show ¬ m < v; omega)]
theorem drop_add {t r s : List UInt8} {p : Nat} (h : t.drop p = r ++ s) : t.drop (p + r.length) = s := by
  rw [← List.drop_drop, h, List.drop_left]
theorem opR_at {t load post : List UInt8} {at_ : Nat} {kind base : Int} {p : Nat} (h : t.drop p = tl (crcL load).toNat 4 ++ (load ++ post)) : opR t at_ kind base load.length p 0 = (0, ⟨kind, base, at_ + (p + 4 + load.length), crcL load, load⟩) := by
  obtain ⟨e1, e2, e3⟩ := rw_at h (length_tl _ 4)
  have h2 := drop_add h
  rw [length_tl] at h2
  obtain ⟨f1, f2, f3⟩ := rn_at h2 rfl
  rw [opR_ok (by rw [e2, e3, f3]) (by rw [e1, e2, e3, f1, be_tl (crcL load).toNat_lt]; omega), e2, e3, f1, f2]
theorem ent_whole {x : UInt8} {load post : List UInt8} {at_ : Nat} {deep : Bool} (h1 : 1 ≤ x.toNat) (h4 : x.toNat ≤ 4) (hl : load.length ≤ 4000) :
    opT (entB x [] load ++ post) x at_ deep = (0, ⟨(x.toNat : Int), 0, at_ + (entB x [] load).length, crcL load, load⟩) := by
  have d1 : (entB x [] load ++ post).drop 1 = vr load.length ++ (tl (crcL load).toNat 4 ++ (load ++ post)) := by simp [entB]
  have v1 := va_at d1 hl (by omega)
  have d2 := drop_add d1
  rw [opT_w (by omega) (by omega), v1, opR_at d2]
  have : 1 + (vr load.length).length + 4 + load.length = (entB x [] load).length := by simp [entB, length_tl]; omega
  rw [this]
theorem ent_made {back : Nat} {load post : List UInt8} {at_ : Nat} (hl : load.length ≤ 4000) (hb : 1 ≤ back) (hb2 : back + 12 ≤ at_) (hm : at_ ≤ 1048576) :
    opT (entB 5 (vr back) load ++ post) 5 at_ false = (0, ⟨5, (at_ : Int) - back, at_ + (entB 5 (vr back) load).length, crcL load, load⟩) := by
  have d1 : (entB 5 (vr back) load ++ post).drop 1 = vr load.length ++ (vr back ++ (tl (crcL load).toNat 4 ++ (load ++ post))) := by simp [entB]
  have v1 := va_at d1 hl (by omega)
  have d2 := drop_add d1
  have v2 := va_at (m := 1048576) d2 (by omega) (by omega)
  have d3 := drop_add d2
  rw [opT_5 rfl, v1, opM_r (.inr ⟨by dsimp only; rw [v2]; dsimp only; omega, rfl⟩)]
  dsimp only
  rw [v2, opR_at d3]
  have : 1 + (vr load.length).length + (vr back).length + 4 + load.length = (entB 5 (vr back) load).length := by simp [entB, length_tl]; omega
  rw [this]
def nx (os : List Ob) (bs : List UInt8) (k : Nat) : Nat := os[k + 1]?.elim bs.length Ob.at_
theorem nx_more {os : List Ob} {bs ex : List UInt8} {q : Ob} {k : Nat} (hk : k < os.length) (hq : q.at_ = bs.length) : nx (os ++ [q]) (bs ++ ex) k = nx os bs k := by
  unfold nx
  rcases Nat.lt_or_ge (k + 1) os.length with g | g
  · rw [List.getElem?_append_left g, List.getElem?_eq_getElem g]; rfl
  · have e : os.length = k + 1 := by omega
    rw [← e, List.getElem?_concat_length, List.getElem?_eq_none (by omega)]
    exact hq
structure Laid1 (os : List Ob) (bs : List UInt8) (o : Ob) (k : Nat) : Prop where
  at12 : 12 ≤ o.at_
  lt : o.at_ < bs.length
  dep : o.dep ≤ 8
  ent : (∃ x post, bs.drop o.at_ = entB x [] o.l ++ post ∧ (x.toNat : Int) = o.kind ∧ o.dep = 0 ∧ o.sum = crcL o.l ∧ o.at_ + (entB x [] o.l).length = nx os bs k) ∨
    (∃ j p post, j < k ∧ os[j]? = some p ∧ p.at_ < o.at_ ∧ p.kind = o.kind ∧ o.dep = p.dep + 1 ∧ o.sum = crcL (scB p.l o.l) ∧ (scB p.l o.l).length < o.l.length ∧ bs.drop o.at_ = entB 5 (vr (o.at_ - p.at_)) (scB p.l o.l) ++ post ∧ o.at_ + (entB 5 (vr (o.at_ - p.at_)) (scB p.l o.l)).length = nx os bs k)
structure LaidAll (s : Pk) : Prop where
  each : ∀ k o, s.os[k]? = some o → Laid1 s.os s.bs o k
  kinds : ∀ o ∈ s.os, 1 ≤ o.kind ∧ o.kind ≤ 4
  short : ∀ o ∈ s.os, o.l.length ≤ 300
theorem Laid1.more {os : List Ob} {bs ex : List UInt8} {o q : Ob} {k : Nat} (h : Laid1 os bs o k) (hk : k < os.length) (hq : q.at_ = bs.length) : Laid1 (os ++ [q]) (bs ++ ex) o k := by
  have hlt := h.lt
  refine ⟨h.at12, by rw [List.length_append]; omega, h.dep, ?_⟩
  rcases h.ent with ⟨x, post, e, u1, u2, u3, u4⟩ | ⟨j, p, post, hj, hp, r1, r2, r3, r4, r5, e, u4⟩
  · exact .inl ⟨x, post ++ ex, by rw [List.drop_append_of_le_length (by omega), e, List.append_assoc], u1, u2, u3, by rw [nx_more hk hq]; exact u4⟩
  · exact .inr ⟨j, p, post ++ ex, hj, by rw [List.getElem?_append_left (by omega)]; exact hp, r1, r2, r3, r4, r5, by rw [List.drop_append_of_le_length (by omega), e, List.append_assoc], by rw [nx_more hk hq]; exact u4⟩
theorem addV_laid {chain : Int} (hc : chain ≤ 8) {s : Pk} {v : IV} (h : LaidAll s) (hk : 1 ≤ v.1 ∧ v.1 ≤ 4) (hl : v.2.length ≤ 300) (h12 : 12 ≤ s.bs.length) (hbs : s.bs.length ≤ 20000) : LaidAll (addV chain s v) := by
  obtain ⟨ht, htl⟩ := told_ok s.os chain v.1 v.2
  have old : ∀ (q : Ob) (ex : List UInt8) (k : Nat) (o : Ob), s.os[k]? = some o → q.at_ = s.bs.length → Laid1 (s.os ++ [q]) (s.bs ++ ex) o k := fun q ex k o ho hq => (h.each k o ho).more (List.getElem?_eq_some_iff.1 ho).1 hq
  have fin : ∀ (q : Ob) (ex : List UInt8), q.kind = v.1 → q.l = v.2 → q.at_ = s.bs.length → Laid1 (s.os ++ [q]) (s.bs ++ ex) q s.os.length → LaidAll ⟨s.bs ++ ex, s.os ++ [q]⟩ := fun q ex e1 e2 e3 hq => by
    refine ⟨fun k o ho => ?_, fun o ho => ?_, fun o ho => ?_⟩
    · rcases Nat.lt_or_ge k s.os.length with g | g
      · rw [List.getElem?_append_left g] at ho
        exact old q ex k o ho e3
      · have hk2 := (List.getElem?_eq_some_iff.1 ho).1
        simp at hk2
        obtain rfl : k = s.os.length := by omega
        rw [List.getElem?_concat_length] at ho
        cases ho
        exact hq
    · rcases List.mem_append.1 ho with ho | ho
      · exact h.kinds o ho
      · obtain rfl := List.mem_singleton.1 ho
        rw [e1]; exact hk
    · rcases List.mem_append.1 ho with ho | ho
      · exact h.short o ho
      · obtain rfl := List.mem_singleton.1 ho
        rw [e2]; exact hl
  unfold addV layO
  rcases ht with ⟨r1, r2⟩ | ⟨j, o, r1, ho, g1, g2, g3, g4⟩
  · rw [if_pos (by omega)]
    refine fin _ _ rfl rfl rfl ⟨h12, by simp [entB] <;> omega, by show (0 : Nat) ≤ 8; omega, .inl ⟨UInt8.ofNat v.1.toNat, [], ?_, ?_, rfl, by rw [r2], by rw [r2]; unfold nx; rw [List.getElem?_eq_none (by simp)]; show s.bs.length + _ = (s.bs ++ _).length; rw [List.length_append]⟩⟩
    · show (s.bs ++ entB _ [] _).drop s.bs.length = _
      rw [List.drop_left, r2, List.append_nil]
    · show ((UInt8.ofNat v.1.toNat).toNat : Int) = v.1
      rw [UInt8.toNat_ofNat']
      omega
  · rw [if_neg (by omega)]
    have hj : (toldV s.os chain v.1 v.2).1.toNat = j := by omega
    have ea : ofAt s.os (toldV s.os chain v.1 v.2).1 = o.at_ := by unfold ofAt; rw [hj, ho]; rfl
    have ed : ofDep s.os (toldV s.os chain v.1 v.2).1 = o.dep := by unfold ofDep; rw [hj, ho]; rfl
    have hL := h.each j o ho
    have hjl := (List.getElem?_eq_some_iff.1 ho).1
    have hLt := hL.lt
    rw [ea, ed]
    refine fin _ _ rfl rfl rfl ⟨h12, by simp [entB] <;> omega, by show o.dep + 1 ≤ 8; omega, .inr ⟨j, o, [], hjl, by rw [List.getElem?_append_left hjl]; exact ho, hLt, g1, rfl, by rw [g3], by rw [← g3]; exact g4, ?_, ?_⟩⟩
    · show (s.bs ++ entB 5 _ _).drop s.bs.length = _
      rw [List.drop_left, g3, List.append_nil]
    · rw [g3]; unfold nx; rw [List.getElem?_eq_none (by simp)]; show s.bs.length + _ = (s.bs ++ _).length; rw [List.length_append]
theorem pack_laid {chain : Int} (hc : chain ≤ 8) {n : Nat} {l : List IV} (hs : ∀ x ∈ l, x.2.length ≤ 300) (hk : ∀ x ∈ l, 1 ≤ x.1 ∧ x.1 ≤ 4) : ∀ k, k ≤ l.length → k ≤ 24 → LaidAll (packN chain n (l.take k))
  | 0, _, _ => ⟨fun k o ho => by simp [packN] at ho, fun o ho => by simp [packN] at ho, fun o ho => by simp [packN] at ho⟩
  | k + 1, hkl, h24 => by
    obtain ⟨x, hx⟩ : ∃ x, l[k]? = some x := ⟨_, List.getElem?_eq_getElem (by omega)⟩
    obtain ⟨h1, h2, h3⟩ := pack_inv (chain := chain) (n := n) hs k (by omega) (by omega)
    rw [packN_succ hx]
    exact addV_laid hc (pack_laid hc hs hk k (by omega) (by omega)) (hk x (List.mem_of_getElem? hx)) (hs x (List.mem_of_getElem? hx)) h2 (by omega)
theorem tail_pack {bs ex : List UInt8} {n : Nat} (he : ex.length = 32) : tailB (bs ++ ex) n = bs.drop n := by
  rw [tail_take, show (bs ++ ex).length - 32 = bs.length by rw [List.length_append]; omega, List.take_left]
theorem entB_hd (x : UInt8) (bk load post : List UInt8) : (entB x bk load ++ post)[0]? = some x := by simp [entB]
theorem open_laid {s : Pk} {ex : List UInt8} (he : ex.length = 32) (h12 : 12 ≤ s.bs.length) (hbs : s.bs.length ≤ 20000) (h : LaidAll s) {k : Nat} {o : Ob} (ho : s.os[k]? = some o) :
    (∃ post, s.bs.drop o.at_ = entB (UInt8.ofNat o.kind.toNat) [] o.l ++ post ∧ o.dep = 0 ∧ o.sum = crcL o.l ∧ ∀ deep, opV (s.bs ++ ex) (o.at_ : Int) deep = (0, ⟨o.kind, 0, nx s.os s.bs k, o.sum, o.l⟩)) ∨
    (∃ j p post, j < k ∧ s.os[j]? = some p ∧ p.kind = o.kind ∧ o.dep = p.dep + 1 ∧ s.bs.drop o.at_ = entB 5 (vr (o.at_ - p.at_)) (scB p.l o.l) ++ post ∧ opV (s.bs ++ ex) (o.at_ : Int) false = (0, ⟨5, (p.at_ : Int), nx s.os s.bs k, o.sum, scB p.l o.l⟩)) := by
  have hL := h.each k o ho
  have h1 := hL.at12
  have h2 := hL.lt
  have hk := h.kinds o (List.mem_of_getElem? ho)
  have hs := h.short o (List.mem_of_getElem? ho)
  have hlen : (s.bs ++ ex).length = s.bs.length + 32 := by rw [List.length_append, he]
  have hx0 : ∀ {x : UInt8} {bk load post : List UInt8}, s.bs.drop o.at_ = entB x bk load ++ post → (s.bs ++ ex)[((o.at_ : Nat) : Int).toNat]? = some x := fun {x bk load post} e => by
    have h4 := entB_hd x bk load post
    rw [← e, List.getElem?_drop, Nat.add_zero] at h4
    rw [Int.toNat_natCast, List.getElem?_append_left h2, h4]
  rcases hL.ent with ⟨x, post, e, r1, r2, r3, u4⟩ | ⟨j, p, post, hj, hp, r1, r2, r3, r4, r5, e, u4⟩
  · have hxe : x = UInt8.ofNat o.kind.toNat := by
      apply UInt8.toNat_inj.1
      rw [UInt8.toNat_ofNat']
      omega
    refine .inl ⟨post, by rw [← hxe]; exact e, r2, r3, fun deep => ?_⟩
    rw [opV_t (by omega) (by omega) (hx0 e), Int.toNat_natCast, tail_pack he, e, ent_whole (by omega) (by omega) (by omega), r1, r3, u4]
  · have hpL := (h.each j p hp).at12
    refine .inr ⟨j, p, post, hj, hp, r2, r3, e, ?_⟩
    rw [opV_t (by omega) (by omega) (hx0 e), Int.toNat_natCast, tail_pack he, e, ent_made (by omega) (by omega) (by omega) (by omega), r4, u4]
    have : (o.at_ : Int) - ((o.at_ - p.at_ : Nat) : Int) = (p.at_ : Int) := by omega
    rw [this]
theorem aplO_sc {a x : List UInt8} {k : Int} (ha : a.length ≤ 300) (hx : x.length ≤ 300) : aplO (scB a x) (k, a, 0) = (k, x, 0) := by
  have h1 := Del.put_read (Del.mkV_err (a := a) (t := x) (by omega) (by omega))
  have h2 := Del.make_apl (a := a) (t := x) (by omega) (by omega)
  have h3 : (Del.readV (scB a x)).2.2.2 = 0 := by unfold scB; rw [h1]
  have h4 : Del.aplR a (Del.readV (scB a x)).1 (Del.readV (scB a x)).2.1 (Del.readV (scB a x)).2.2.1 = (x, 0) := by unfold scB; rw [h1]; exact h2
  rw [aplO_4 rfl h3 (by dsimp only; rw [h4])]
  dsimp only
  rw [h4]
theorem read_laid {s : Pk} {ex : List UInt8} (he : ex.length = 32) (h12 : 12 ≤ s.bs.length) (hbs : s.bs.length ≤ 20000) (h : LaidAll s) : ∀ (k : Nat) (o : Ob), s.os[k]? = some o → ∀ f, o.dep ≤ f → rdF (s.bs ++ ex) f (o.at_ : Int) = (o.kind, o.l, 0) := by
  intro k
  induction k using Nat.strongRecOn with
  | _ k ih =>
    intro o ho f hf
    have hk := h.kinds o (List.mem_of_getElem? ho)
    have hs := h.short o (List.mem_of_getElem? ho)
    rcases open_laid he h12 hbs h ho with ⟨post, _, _, _, hop⟩ | ⟨j, p, post, hj, hp, g1, g2, _, hop⟩
    · rw [rdF_ok (by rw [hop]), hop]
      unfold rest
      exact if_neg (by show ¬ o.kind = 5; omega)
    · obtain ⟨f, rfl⟩ : ∃ f', f = f' + 1 := ⟨f - 1, by omega⟩
      have hb : (f + 1 == 0) = false := rfl
      rw [rdF_ok (by rw [hb, hop]), hb, hop]
      unfold rest
      rw [if_pos rfl]
      show aplO (scB p.l o.l) (rdF (s.bs ++ ex) f (p.at_ : Int)) = _
      rw [ih j hj p hp f (by omega), g1, aplO_sc (h.short p (List.mem_of_getElem? hp)) hs]
end Go.Proofs.YtgaklngnfecdaaaGreat.Pak
namespace Go.Proofs.YtgaklngnfecdaaaGreat.Pak
open Go.RowKit Zk Zx
open Sha (N)
open Go.Proofs.YtgaklngnfecdaaaGreat.Obj (objE objB nameI nameI_len)
open Oct (vaN rwL rwP rwE rnL rnP rnE be tkP tkE numF vr tl length_tl)
def scanF (b : List UInt8) : Nat → Nat → Int × List Ob × Nat
  | 0, at_ => (0, [], at_)
  | n + 1, at_ => if (opV b at_ false).1 ≠ 0 then ((opV b at_ false).1, [], 0)
    else if (rest b 7 (opV b at_ false).2).2.2 ≠ 0 then ((rest b 7 (opV b at_ false).2).2.2, [], 0)
    else if objE (rest b 7 (opV b at_ false).2).1 (rest b 7 (opV b at_ false).2).2.1 ≠ 0 then (objE (rest b 7 (opV b at_ false).2).1 (rest b 7 (opV b at_ false).2).2.1, [], 0)
    else ((scanF b n (opV b at_ false).2.fin).1, ⟨(rest b 7 (opV b at_ false).2).1, (rest b 7 (opV b at_ false).2).2.1, 0, at_, (opV b at_ false).2.sum⟩ :: (scanF b n (opV b at_ false).2.fin).2.1, (scanF b n (opV b at_ false).2.fin).2.2)
def glue (os : List Ob) (q : Int × List Ob × Nat) : Int × List Ob × Nat := (q.1, os ++ q.2.1, q.2.2)
section
variable {b : List UInt8} {n at_ : Nat}
end
def SCI (b : List UInt8) (n k : Nat) (os : List Ob) (at_ : Nat) : Prop := scanF b n 12 = glue os (scanF b (n - k) at_)
theorem SCI.start (b : List UInt8) (n : Nat) : SCI b n 0 [] 12 := rfl
theorem SCI.err {b : List UInt8} {n k at_ : Nat} {os : List Ob} (h : SCI b n k os at_) {e : Int} (h2 : (scanF b (n - k) at_).1 = e) : (scanF b n 12).1 = e := by
  unfold SCI at h; rw [h]; exact h2
theorem SCI.next {b : List UInt8} {n k at_ at2 : Nat} {os : List Ob} {o : Ob} (h : SCI b n k os at_) (hk : k < n) (h2 : scanF b (n - k - 1 + 1) at_ = glue [o] (scanF b (n - k - 1) at2)) : SCI b n (k + 1) (os ++ [o]) at2 := by
  unfold SCI at h ⊢
  rw [h, show n - k = n - k - 1 + 1 by omega, h2, show n - (k + 1) = n - k - 1 by omega]
  unfold glue
  simp
theorem SCI.done {b : List UInt8} {n at_ : Nat} {os : List Ob} (h : SCI b n n os at_) : scanF b n 12 = (0, os, at_) := by
  unfold SCI at h
  rw [h, Nat.sub_self]
  unfold scanF glue
  simp
theorem first_at {chain : Int} {n : Nat} {l : List IV} : (packN chain n l).os[0]?.elim (packN chain n l).bs.length Ob.at_ = 12 := by
  have key : ∀ (l : List IV) (s : Pk), s.os[0]?.elim s.bs.length Ob.at_ = 12 → (l.foldl (addV chain) s).os[0]?.elim (l.foldl (addV chain) s).bs.length Ob.at_ = 12 := by
    intro l
    induction l with
    | nil => exact fun s h => h
    | cons v l ih =>
      intro s h
      refine ih _ ?_
      unfold addV layO
      cases ho : s.os with
      | nil =>
        rw [ho] at h
        split <;> exact h
      | cons o os =>
        rw [ho] at h
        split <;> exact h
  exact key l _ (by show (frontB n).length = 12; exact frontB_len n)
theorem kind_of {k : Int} {b : List UInt8} (h : objE k b = 0) : 1 ≤ k ∧ k ≤ 4 := Classical.byContradiction fun q => by
  unfold objE at h
  rw [if_pos q] at h
  exact absurd h (by decide)
structure Written (chain : Int) (l : List IV) : Prop where
  inv : LaidAll (packV chain l)
  cnt : (packV chain l).os.length = l.length
  lo : 12 ≤ (packV chain l).bs.length
  hi : (packV chain l).bs.length ≤ 10000
  items : (packV chain l).os.map (fun o => (o.kind, o.l)) = l
  good : ∀ o ∈ (packV chain l).os, objE o.kind o.l = 0
theorem written {chain : Int} (hc : chain ≤ 8) {l : List IV} (h24 : l.length ≤ 24) (hs : ∀ x ∈ l, x.2.length ≤ 300) (hn : ∀ x ∈ l, objE x.1 x.2 = 0) : Written chain l := by
  have h1 := pack_inv (chain := chain) (n := l.length) hs l.length (Nat.le_refl _) h24
  have h2 := pack_os (chain := chain) (n := l.length) (l := l) l.length (Nat.le_refl _)
  have h3 := pack_laid hc (n := l.length) hs (fun x hx => kind_of (hn x hx)) l.length (Nat.le_refl _) h24
  rw [List.take_length] at h1 h2 h3
  refine ⟨h3, h1.1, h1.2.1, by have := h1.2.2; unfold packV; omega, h2, fun o ho => hn (o.kind, o.l) ?_⟩
  have : (o.kind, o.l) ∈ (packN chain l.length l).os.map (fun o => (o.kind, o.l)) := List.mem_map.2 ⟨o, ho, rfl⟩
  rwa [h2] at this
theorem Written.item {chain : Int} {l : List IV} (h : Written chain l) {k : Nat} {o : Ob} (ho : (packV chain l).os[k]? = some o) : l[k]? = some (o.kind, o.l) := by
  have h1 : ((packV chain l).os.map (fun o => (o.kind, o.l)))[k]? = some (o.kind, o.l) := by rw [List.getElem?_map, ho]; rfl
  rwa [h.items] at h1
theorem Written.read {chain : Int} {l : List IV} (h : Written chain l) {k : Nat} {o : Ob} (ho : (packV chain l).os[k]? = some o) : readP (packB chain l) (o.at_ : Int) = (o.kind, o.l, 0) :=
  read_laid (Sha.length_ofL _) h.lo (by have := h.hi; omega) h.inv k o ho 8 (h.inv.each k o ho).dep
end Go.Proofs.YtgaklngnfecdaaaGreat.Pak
namespace Go.Proofs.YtgaklngnfecdaaaGreat.Pak
open Go.RowKit Zk Zx
open Sha (N xorN andN notN N_ge N_le)
open Go.Proofs.YtgaklngnfecdaaaGreat.Obj (objE objB nameI nameI_len nameI_ok nameI_no zB zB_len rs_tail)
open Oct (vaN rwL rwP rwE rnL rnP rnE be vr tl length_tl)
open Del (scA opf OP OkO mkV encV putR readV aplR)
theorem add_ (g : Nat) (A : Option Addr) (n c : Nat) (A1 : Option Addr) (c1 : Nat) (A2 : Option Addr) (c2 : Nat) (A3 : Option Addr) (c3 : Nat) (its : List It) (s : Pk) (x : It) (chain : Int) (w0 : World) (hw : (sepL (pkL g A n c A1 c1 A2 c2 A3 c3 its s)).holds w0) (hio : Same its s.os) (hits : ∀ y ∈ its, OkM w0 (sepL (pkL g A n c A1 c1 A2 c2 A3 c3 its s)).dom y.p) (hsm : ∀ y ∈ its, y.p.n ≤ 300) (hp : OkM w0 (sepL (pkL g A n c A1 c1 A2 c2 A3 c3 its s)).dom x.p) (hp3 : x.p.n ≤ 300) (hk : 1 ≤ x.kind ∧ x.kind ≤ 4) (hc8 : chain ≤ 8) (hbl : s.bs.length ≤ 20000) (hil : its.length ≤ 1000) (hat : ∀ o ∈ s.os, o.at_ ≤ s.bs.length) : Calls Tryz.prog 57 #[.pointer (some ⟨g, 0, none⟩), .agg (itf x).toArray, .agg (bA (nameI x.kind x.p.l)), .int .i64 chain] w0 fun e w' => ∃ u, e = .returned u ∧ u = .tuple #[] ∧ ∃ A' n' c' A1' c1' A2' c2' A3' c3', Turned w0 w' (sepL (pkL g A n c A1 c1 A2 c2 A3 c3 its s)) (sepL (pkL g A' n' c' A1' c1' A2' c2' A3' c3' (its ++ [x]) (addV chain s (x.kind, x.p.l)))) := by
  rcases (told_ok s.os chain x.kind x.p.l).1 with ⟨h1, _⟩ | ⟨k, o, h1, ho, _, hd, _⟩
  · exact add0 g A n c A1 c1 A2 c2 A3 c3 its s x chain w0 hw hio hits hsm hp hp3 hk hc8 hbl hil hat h1
  · exact add1 g A n c A1 c1 A2 c2 A3 c3 its s x chain w0 hw hio hits hsm hp hp3 hk hc8 hbl hil hat k o h1 ho hd
theorem names_bad {w0 w' : World} {l : List IV} {u : Value} (h : NamesV w0 w' l u) (he : nameE l ≠ 0) : u = .tuple #[.slice none 0 0, .int .i64 (nameE l)] := by
  rcases h with ⟨_, h⟩ | ⟨h, _⟩
  · exact h
  · exact absurd h he
theorem names_good {w0 w' : World} {l : List IV} {u : Value} (h : NamesV w0 w' l u) (he : nameE l = 0) : ∃ A c, u = .tuple #[.slice A l.length c, .int .i64 0] ∧ w'.ownsRow w0.heap.size 41 32 (.slice A l.length c) l.length (l.flatMap idB) := by
  rcases h with ⟨h, _⟩ | ⟨_, h⟩
  · exact absurd he h
  · exact h
structure PKM where
  A : Option Addr
  n : Nat
  c : Nat
  A1 : Option Addr
  c1 : Nat
  A2 : Option Addr
  c2 : Nat
  A3 : Option Addr
  c3 : Nat
def WriteV (w0 w' : World) (chain : Int) (l : List IV) (u : Value) : Prop := (wrE chain l ≠ 0 ∧ Like w0 w' ∧ u = .tuple #[.slice none 0 0, .slice none 0 0, .int .i64 (wrE chain l)]) ∨
  (wrE chain l = 0 ∧ ∃ A c A2 c2, u = .tuple #[.slice A (packB chain l).length c, .slice A2 l.length c2, .int .i64 0] ∧ Zx.St w0 noM [row 5 1 A (packB chain l).length c (bL (packB chain l)), row 67 34 A2 l.length c2 ((packV chain l).os.flatMap plO)] w')
theorem okM_of {w0 w : World} {ps rs : List Res} (S : Zx.St w0 noM (ps ++ rs) w) {p : Part} (h : p.ok w0) : OkM w (sepL rs).dom p := by
  refine ⟨S.rd h, fun ad hn hA ⟨r, hr, hd⟩ => ?_⟩
  have h1 := old_block h hn hA
  have h2 := (S.res r (List.mem_append_right _ hr)).2 _ hd
  rcases h2.2 with h3 | h3
  · omega
  · exact h3
theorem same_take {its : List It} {chain : Int} {n k : Nat} (hk : k ≤ its.length) : Same (its.take k) (packN chain n ((its.map It.v).take k)).os := by
  unfold Same
  rw [List.map_take]
  exact (pack_os (chain := chain) (n := n) (l := its.map It.v) k (by simpa using hk)).symm
theorem rs_dig {w : World} {b t : Nat} {l : List UInt8} (h : Blk w b t (bA (Sha.ofL l))) : Rs w 1 (some ⟨b, 0, none⟩) 32 32 (bL (Sha.ofL l)) := by
  have h1 : (bL (Sha.ofL l)).length = 32 := by rw [length_bL]; exact Sha.length_ofL l
  have := Rs.of_blk (o := 0) (n := 32) h (by show 0 + 32 ≤ (bL (Sha.ofL l)).toArray.size; rw [List.size_toArray, h1]; omega) (by omega)
  rwa [List.drop_zero, show (bA (Sha.ofL l)).toList = bL (Sha.ofL l) from List.toList_toArray .., List.take_of_length_le (by rw [h1]; omega)] at this
theorem take1i {α : Type} {l : List α} {k : Nat} {x : α} (h : l[k]? = some x) : l.take (k + 1) = l.take k ++ [x] := by rw [List.take_add_one, h]; rfl
theorem cat1 (A : Option Addr) (n c : Nat) (l : List UInt8) : Sha.cat [⟨A, n, c, l⟩] = l := by simp [Sha.cat]
theorem write0 (A : Option Addr) (n c : Nat) (its : List It) (chain : Int) (w0 : World) (hits : Rs w0 2 A n c (its.flatMap itf)) (hok : OkI w0 its) (hsm : ∀ x ∈ its, x.p.n ≤ 300) (h24 : its.length ≤ 24) (hne : nameE (its.map It.v) ≠ 0) :
    Calls Tryz.prog 28 #[.slice A n c, .int .i64 chain] w0 fun e w' => ∃ u, e = .returned u ∧ WriteV w0 w' chain (its.map It.v) u := by
 refine enter1 (env := [(0, .slice A n c), (1, .int .i64 chain)]) [.slice A n c, .int .i64 chain] Tryz.func28 rfl Tryz.ntmps28 rfl rfl ?_; have hn := its_len hits; have hcap := hits.cap; have hmax := hits.max; have S0 := St.start w0 noM; refine T_seq fun K1 hK1 => T_region (L_y (y_assign rfl) rfl (L_y (y_assign rfl) rfl (L_y (y_assign rfl) rfl (L_nil (hK1 _ _ (T_seq fun K2 hK2 => T_seq fun K3 hK3 => T_region (L_y (y_move rfl) rfl (L_y (y_lss rfl rfl) rfl (L_y (y_move rfl) rfl ?_))))))))); refine L_split 16 rfl (fun h16 => ?_) (fun h16 => ?_)
 ·
  refine L_gno rfl rfl rfl (L_gno rfl rfl rfl (L_y (y_pk rfl rfl) rfl (L_nil (hK3 _ _ (T_true rfl (T_seq fun K4 hK4 => T_region (L_y (y_assign rfl) rfl (L_y (y_assign rfl) rfl (L_y (y_assign rfl) rfl (L_nil (hK4 _ _ (T_ret ?_)))))))))))); refine ur (ret3 rfl rfl rfl rfl ?_); have he : wrE chain (its.map It.v) = 2 := by unfold wrE; rw [if_pos (by omega)]
  exact ⟨_, rfl, .inl ⟨by rw [he]; decide, S0.like0, by rw [he]⟩⟩
 ·
  refine L_gyes rfl rfl (L_y (y_move rfl) rfl (L_gyes rfl rfl (L_y (y_gtr rfl rfl) rfl (L_y (y_pk rfl rfl) rfl (L_nil (hK3 _ _ ?_)))))); refine T_cond rfl (fun h19 => ?_) (fun h19 => ?_)
  ·
   refine T_seq fun K5 hK5 => T_region (L_y (y_assign rfl) rfl (L_y (y_assign rfl) rfl (L_y (y_assign rfl) rfl (L_nil (hK5 _ _ (T_ret (ur (ret3 rfl rfl rfl rfl ?_)))))))); have he : wrE chain (its.map It.v) = 2 := by unfold wrE; rw [if_pos (by omega)]
   exact ⟨_, rfl, .inl ⟨by rw [he]; decide, S0.like0, by rw [he]⟩⟩
  ·
   refine T_skip (hK2 _ _ (T_seq fun K6 hK6 => T_seq fun K7 hK7 => T_region (L_y (y_move rfl) rfl (L_y (y_len Tryz.underlying48 rfl) rfl (L_y (y_gtr rfl rfl) rfl (L_nil (hK7 _ _ ?_))))))); refine T_cond rfl (fun h22 => ?_) (fun h22 => ?_)
   ·
    omega
   ·
    refine T_skip (hK6 _ _ (T_seq fun K8 hK8 => T_region (L_y (y_move rfl) rfl (L_o (o_call Tryz.func54 rfl rfl (names A n c its w0 (S0.rd hits) (OkI.like hok S0.like0) (fun y hy => by have := hsm y hy; omega) (by omega)) rfl rfl ?_))))); rintro e2 w2 ⟨v2, rfl, l2, hN2⟩; refine ⟨_, rfl, ?_⟩; have S2 := S0.like l2; obtain rfl := names_bad hN2 hne; refine L_y (y_move rfl) rfl (L_y (y_extract rfl rfl) rfl (L_y (y_extract rfl rfl) rfl (L_y (y_assign rfl) rfl (L_y (y_assign rfl) rfl (L_nil (hK8 _ _ (T_seq fun K9 hK9 => T_seq fun K10 hK10 => T_region (L_y (y_move rfl) rfl (L_y (y_neq rfl rfl) rfl (L_nil (hK10 _ _ ?_))))))))))); refine T_cond rfl (fun h29 => ?_) (fun h29 => ?_)
    ·
     refine T_seq fun K11 hK11 => T_region (L_y (y_move rfl) rfl (L_y (y_assign rfl) rfl (L_y (y_assign rfl) rfl (L_y (y_assign rfl) rfl (L_nil (hK11 _ _ (T_ret (ur (ret3 rfl rfl rfl rfl ?_))))))))); have he : wrE chain (its.map It.v) = nameE (its.map It.v) := by unfold wrE; rw [if_neg (by omega)]
     exact ⟨_, rfl, .inl ⟨by rw [he]; exact hne, S2.like0, by rw [he]; rfl⟩⟩
    ·
     exact absurd hne h29
theorem write1 (A : Option Addr) (n c : Nat) (its : List It) (chain : Int) (w0 : World) (hits : Rs w0 2 A n c (its.flatMap itf)) (hok : OkI w0 its) (hsm : ∀ x ∈ its, x.p.n ≤ 300) (h24 : its.length ≤ 24) (hne : nameE (its.map It.v) = 0) :
    Calls Tryz.prog 28 #[.slice A n c, .int .i64 chain] w0 fun e w' => ∃ u, e = .returned u ∧ WriteV w0 w' chain (its.map It.v) u := by
 refine enter1 (env := [(0, .slice A n c), (1, .int .i64 chain)]) [.slice A n c, .int .i64 chain] Tryz.func28 rfl Tryz.ntmps28 rfl rfl ?_; have hn := its_len hits; have hcap := hits.cap; have hmax := hits.max; have hvl : (its.map It.v).length = n := by rw [List.length_map]; exact hn.symm
 obtain ⟨hall, _⟩ := nameE_ok hne; have hs3 : ∀ y ∈ (its.map It.v), y.2.length ≤ 300 := fun y hy => by obtain ⟨z, hz, rfl⟩ := List.mem_map.1 hy; have h1 := (hok z hz).lenb; have h2 := hsm z hz; show z.p.l.length ≤ 300; omega
 have hinv := fun (k : Nat) (hk : k ≤ n) => pack_inv (chain := chain) (n := n) hs3 k (by omega) (by omega); have hlaid := fun (hc8 : chain ≤ 8) (k : Nat) (hk : k ≤ n) => pack_laid hc8 (n := n) hs3 (fun y hy => kind_of (hall y hy)) k (by omega) (by omega); have S0 := St.start w0 noM; refine T_seq fun K1 hK1 => T_region (L_y (y_assign rfl) rfl (L_y (y_assign rfl) rfl (L_y (y_assign rfl) rfl (L_nil (hK1 _ _ (T_seq fun K2 hK2 => T_seq fun K3 hK3 => T_region (L_y (y_move rfl) rfl (L_y (y_lss rfl rfl) rfl (L_y (y_move rfl) rfl ?_))))))))); refine L_split 16 rfl (fun h16 => ?_) (fun h16 => ?_)
 ·
  refine L_gno rfl rfl rfl (L_gno rfl rfl rfl (L_y (y_pk rfl rfl) rfl (L_nil (hK3 _ _ (T_true rfl (T_seq fun K4 hK4 => T_region (L_y (y_assign rfl) rfl (L_y (y_assign rfl) rfl (L_y (y_assign rfl) rfl (L_nil (hK4 _ _ (T_ret ?_)))))))))))); refine ur (ret3 rfl rfl rfl rfl ?_); have he : wrE chain (its.map It.v) = 2 := by unfold wrE; rw [if_pos (by omega)]
  exact ⟨_, rfl, .inl ⟨by rw [he]; decide, S0.like0, by rw [he]⟩⟩
 ·
  refine L_gyes rfl rfl (L_y (y_move rfl) rfl (L_gyes rfl rfl (L_y (y_gtr rfl rfl) rfl (L_y (y_pk rfl rfl) rfl (L_nil (hK3 _ _ ?_)))))); refine T_cond rfl (fun h19 => ?_) (fun h19 => ?_)
  ·
   refine T_seq fun K5 hK5 => T_region (L_y (y_assign rfl) rfl (L_y (y_assign rfl) rfl (L_y (y_assign rfl) rfl (L_nil (hK5 _ _ (T_ret (ur (ret3 rfl rfl rfl rfl ?_)))))))); have he : wrE chain (its.map It.v) = 2 := by unfold wrE; rw [if_pos (by omega)]
   exact ⟨_, rfl, .inl ⟨by rw [he]; decide, S0.like0, by rw [he]⟩⟩
  ·
   refine T_skip (hK2 _ _ (T_seq fun K6 hK6 => T_seq fun K7 hK7 => T_region (L_y (y_move rfl) rfl (L_y (y_len Tryz.underlying48 rfl) rfl (L_y (y_gtr rfl rfl) rfl (L_nil (hK7 _ _ ?_))))))); refine T_cond rfl (fun h22 => ?_) (fun h22 => ?_)
   ·
    omega
   ·
    refine T_skip (hK6 _ _ (T_seq fun K8 hK8 => T_region (L_y (y_move rfl) rfl (L_o (o_call Tryz.func54 rfl rfl (names A n c its w0 (S0.rd hits) (OkI.like hok S0.like0) (fun y hy => by have := hsm y hy; omega) (by omega)) rfl rfl ?_))))); rintro e2 w2 ⟨v2, rfl, l2, hN2⟩; refine ⟨_, rfl, ?_⟩; have S2 := S0.like l2; obtain ⟨A7, c7, rfl, O7⟩ := names_good hN2 hne; have S3 := S0.adopt l2 O7; refine L_y (y_move rfl) rfl (L_y (y_extract rfl rfl) rfl (L_y (y_extract rfl rfl) rfl (L_y (y_assign rfl) rfl (L_y (y_assign rfl) rfl (L_nil (hK8 _ _ (T_seq fun K9 hK9 => T_seq fun K10 hK10 => T_region (L_y (y_move rfl) rfl (L_y (y_neq rfl rfl) rfl (L_nil (hK10 _ _ ?_))))))))))); refine T_cond rfl (fun h29 => ?_) (fun h29 => ?_)
    ·
     exact absurd rfl h29
    ·
     refine T_skip (hK9 _ _ (T_seq fun K11 hK11 => T_region (L_y (y_build rfl (show _ = some #[Value.slice none 0 0, .slice none 0 0, .slice none 0 0, .slice none 0 0] by kernel_rfl)) rfl (L_o (o_box rfl S3 rfl fun b4 w4 hb4 S4 => have S5 := (((S4.nilrow 65 2).nilrow 67 34).nilrow 3 1).nilrow 5 1; have S5a := S5.sel [0, 2, 3, 4, 1, 5] (by decide); have S5b : Zx.St w0 noM [row 41 32 A7 (its.map It.v).length c7 ((its.map It.v).flatMap idB), row 65 2 none 0 0 [], row 67 34 none 0 0 [], row 3 1 none 0 0 [], wu (.slice none 0 0) (.slice none 0 0) (.slice none 0 0) b4 none 0 0 []] w4 := St.joinL (ps := [_, _, _, _]) S5a; L_y (y_assign rfl) rfl (L_nil (hK11 _ _ (T_seq fun K12 hK12 => T_region ?_)))))))); refine L_y (y_move rfl) rfl (L_y (y_nilp rfl) rfl (L_y (y_fieldA 0 Tryz.underlying113 rfl sz110 rfl rfl rfl) rfl (L_o (o_bsl [_, _, _, _] te22 zz5 S5b rfl rfl rfl rfl rfl rfl rfl rfl fun b6 w6 S6 => L_o (o_bconst S6 5 rfl Tryz.underlying22 Tryz.underlying5 rfl (by omega) rfl fun w7 S7 => L_o (o_call Tryz.func55 rfl rfl (wrawW b4 none 0 0 ([]) _ _ _ [80, 65, 67, 75] w7 (S7.get 4 rfl) (S7.fix 5 rfl) (by simp only [List.length_append, List.length_cons, List.length_nil, length_tl]; omega)) rfl rfl ?_)))))); rintro e8 w8 ⟨v8, rfl, A8, n8, c8, T8⟩; refine ⟨_, rfl, (have S8 := S7.turn 4 rfl T8; L_nil (hK12 _ _ (T_seq fun K13 hK13 => T_region (L_y (y_move rfl) rfl (L_y (y_nilp rfl) rfl (L_y (y_fieldA 0 Tryz.underlying113 rfl sz110 rfl rfl rfl) rfl (L_o (o_call Tryz.func56 rfl rfl (wu32W b4 A8 n8 c8 ([] ++ [80, 65, 67, 75]) 1 w8 (S8.get 4 rfl) (by omega) (by simp only [List.length_append, List.length_cons, List.length_nil, length_tl]; omega)) rfl rfl ?_))))))))⟩; rintro e9 w9 ⟨v9, rfl, A9, n9, c9, T9⟩; refine ⟨_, rfl, (have S9 := S8.turn 4 rfl T9; L_nil (hK13 _ _ (T_seq fun K14 hK14 => T_region (L_y (y_move rfl) rfl (L_y (y_nilp rfl) rfl (L_y (y_fieldA 0 Tryz.underlying113 rfl sz110 rfl rfl rfl) rfl (L_y (y_move rfl) rfl (L_y (y_len Tryz.underlying48 rfl) rfl (L_y (y_conv is3 Tryz.underlying63 rfl (u32w (by omega))) rfl (L_o (o_call Tryz.func56 rfl rfl (wu32W b4 A9 n9 c9 ([] ++ [80, 65, 67, 75] ++ tl 1 4) n w9 (S9.get 4 rfl) (by omega) (by simp only [List.length_append, List.length_cons, List.length_nil, length_tl]; omega)) rfl rfl ?_)))))))))))⟩; rintro e10 w10 ⟨v10, rfl, A10, n10, c10, T10⟩; refine ⟨_, rfl, (have S10 := S9.turn 4 rfl T10; L_nil (hK14 _ _ (T_seq fun K15 hK15 => T_seq fun K16 hK16 => T_region (L_y (y_move rfl) rfl (L_y (y_len Tryz.underlying48 rfl) rfl (L_y (y_move rfl) rfl (L_nil (hK16 _ _ (T_block ?_)))))))))⟩; refine T_loop2 [(1, _), (7, _), (9, _), (50, _), (51, _)] (fun (k : Nat) (m : PKM) => [(52, .int .i64 (k : Int))]) (fun (k : Nat) (m : PKM) => n - k) (fun (k : Nat) (m : PKM) (w : World) => k ≤ n ∧ Zx.St w0 noM ([row 41 32 A7 (its.map It.v).length c7 ((its.map It.v).flatMap idB)] ++ pkL b4 m.A m.n m.c m.A1 m.c1 m.A2 m.c2 m.A3 m.c3 (its.take k) (packN chain n ((its.map It.v).take k))) w) 0 ⟨A10, n10, c10, none, 0, none, 0, none, 0⟩ (Sub.cons rfl (by first | rfl | exact congrArg (Value.int _) (by omega)) (Sub.nil _)) (Sub.cons rfl rfl (Sub.cons rfl rfl (Sub.cons rfl rfl (Sub.cons rfl rfl (Sub.cons rfl rfl (Sub.nil _)))))) ?_ ?_
     ·
      have S11 := S10.sel [0, 1, 2, 3, 4] (by decide); have S70 : Zx.St w0 noM ([row 41 32 A7 (its.map It.v).length c7 ((its.map It.v).flatMap idB)] ++ pkL b4 A10 n10 c10 none 0 none 0 none 0 (its.take 0) (packN chain n ((its.map It.v).take 0))) w10 := S11.cast (by rw [List.take_zero, List.take_zero]; first | rfl | simp [pkL, packN, frontB]); exact ⟨by omega, S70⟩
     ·
      intro k m w12 hrel; obtain ⟨hk, S12⟩ := hrel; refine T_seq fun K17 hK17 => T_region (L_y (y_lss rfl rfl) rfl (L_nil (hK17 _ _ (T_seq fun K18 hK18 => ?_)))); refine T_cond rfl (fun h53 => ?_) (fun h53 => ?_)
      ·
       obtain ⟨x, hx⟩ : ∃ x, its[k]? = some x := ⟨_, List.getElem?_eq_getElem (by omega)⟩; have hxo := hok x (List.mem_of_getElem? hx); have hxs := hsm x (List.mem_of_getElem? hx); have hkd := kind_of (hall _ (List.mem_of_getElem? (vs_at hx))); obtain ⟨i1, i2, i3⟩ := hinv k (by omega); obtain ⟨j1, j2, j3⟩ := hinv (k + 1) (by omega); have hla := hlaid (by omega) k (by omega); refine T_skip (hK18 _ _ (T_seq fun K19 hK19 => T_block (T_seq fun K20 hK20 => T_region (L_y (y_move rfl) rfl (L_y (y_idx Tryz.underlying48 sz65 rfl rfl (S12.rd hits) inferInstance (by omega)) rfl (L_y (y_ldp (f := itf) itf_len Tryz.underlying65 rfl sz65 rfl (S12.rd hits) (by omega) hx) rfl (L_o (o_alloc zz65 S12 rfl fun b13 w13 hb13 S13 => L_y (y_assign rfl) rfl (L_o (o_stW S13 5 rfl rfl rfl sz65 (by rfl) (fun u hu => itf_one x u (by rw [List.toList_toArray] at hu; exact hu)) fun w14 S14 => ?_)))))))))); refine L_nil (hK20 _ _ (T_seq fun K21 hK21 => T_tail 7 hmix (by kernel_rfl) fun w15 l15 K22 hK22 => have S15 := S14.like l15; HL_y (y_move rfl) rfl (HL_y (y_ldW Tryz.underlying65 rfl sz65 rfl (S15.blk 5 rfl) (show _ = itf x ∧ _ from ⟨rfl, rfl⟩)) rfl (HL_y (y_move rfl) rfl (HL_y (y_move rfl) rfl (HL_y (y_idx Tryz.underlying81 sz41 rfl rfl (S15.row 0 rfl) inferInstance (by omega)) rfl (HL_y (y_ldp (f := idB) idB_len Tryz.underlying41 rfl sz41 rfl (S15.row 0 rfl) (by omega) (vs_at hx)) rfl (HL_y (y_move rfl) rfl (HL_nil (hK22 _ ?_)))))))))); have Sq16 : Zx.St w0 noM ([_, _] ++ pkL b4 m.A m.n m.c m.A1 m.c1 m.A2 m.c2 m.A3 m.c3 (its.take k) (packN chain n ((its.map It.v).take k))) w15 := S15.sel [0, 5, 1, 2, 3, 4] (by decide); refine L_o (o_call Tryz.func57 rfl rfl (add_ b4 m.A m.n m.c m.A1 m.c1 m.A2 m.c2 m.A3 m.c3 (its.take k) (packN chain n ((its.map It.v).take k)) x chain w15 (St.getL (ps := [_, _]) Sq16) (same_take (by omega)) (fun y hy => okM_of (ps := [_, _]) Sq16 (hok y (List.mem_of_mem_take hy))) (fun y hy => hsm y (List.mem_of_mem_take hy)) (okM_of (ps := [_, _]) Sq16 hxo) hxs hkd (by omega) (by omega) (by rw [List.length_take]; omega) (fun y hy => by obtain ⟨j, hj⟩ := List.mem_iff_getElem?.1 hy; exact Nat.le_of_lt (hla.each j y hj).lt)) rfl rfl ?_); rintro e16 w16 ⟨v16, rfl, rfl, A16, n16, c16, AA16, ca16, AB16, cb16, AC16, cc16, T16⟩; refine ⟨_, rfl, ?_⟩; have S16 := St.turnL (ps := [_, _]) Sq16 T16; have hnk := wu_len (S16.get 5 rfl); rw [← packN_succ (n := n) (vs_at hx)] at hnk; refine L_nil (hK21 _ _ (T_seq fun K23 hK23 => T_region (L_y (y_move rfl) rfl (L_y (y_nilp rfl) rfl (L_y (y_fieldA 0 Tryz.underlying113 rfl sz110 rfl rfl rfl) rfl (L_o (o_call Tryz.func58 rfl rfl (wlenW b4 _ _ _ _ w16 (S16.get 5 rfl)) rfl rfl ?_))))))); rintro e17 w17 ⟨v17, rfl, l17, rfl⟩; refine ⟨_, rfl, (have S17 := S16.like l17; L_y (y_gtr rfl rfl) rfl (L_nil (hK23 _ _ ?_)))⟩; refine T_cond rfl (fun h69 => ?_) (fun h69 => ?_)
       ·
        omega
       ·
        refine T_skip (hK19 _ _ (T_region (L_y (y_add rfl rfl (i64w (by omega))) rfl (L_y (y_move rfl) rfl (L_nil ?_))))); have S91 : Zx.St w0 noM ([row 41 32 A7 (its.map It.v).length c7 ((its.map It.v).flatMap idB)] ++ pkL b4 _ _ _ _ _ _ _ _ _ (its.take k ++ [x]) (addV chain (packN chain n ((its.map It.v).take k)) (x.kind, x.p.l))) w17 := S17.sel [0, 2, 3, 4, 5] (by decide); rw [← packN_succ (n := n) (vs_at hx), ← take1i hx] at S91; refine ⟨k + 1, ⟨_, _, _, _, _, _, _, _, _⟩, by omega, ⟨by omega, S91⟩, ?_⟩; exact (Sub.cons rfl (by first | rfl | exact congrArg (Value.int _) (by omega)) (Sub.cons rfl rfl (Sub.cons rfl rfl (Sub.cons rfl rfl (Sub.cons rfl rfl (Sub.cons rfl rfl (Sub.nil _)))))))
      ·
       have hW : Written chain (its.map It.v) := written (by omega) (by omega) hs3 hall; have hke : k = n := by omega
       subst hke; rw [List.take_of_length_le (l := its) (by omega), List.take_of_length_le (l := (its.map It.v)) (by omega)] at S12; subst hvl; have hnb : (packV chain (its.map It.v)).bs.length = m.n := wu_len (S12.get 4 rfl); have hWl := hW.hi; refine T_exit (hK15 _ _ (T_seq fun K24 hK24 => T_region (L_y (y_move rfl) rfl (L_y (y_nilp rfl) rfl (L_y (y_fieldA 0 Tryz.underlying113 rfl sz110 rfl rfl rfl) rfl (L_o (o_call Tryz.func59 rfl rfl (wbytesW b4 _ _ _ _ w12 (S12.get 4 rfl) (Nat.le_trans hWl (by decide))) rfl rfl ?_))))))); rintro e18 w18 ⟨v18, rfl, l18, A18, m18, c18, rfl, O18⟩; refine ⟨_, rfl, (have S18 := S12.adopt l18 O18; have hm18 : (packV chain (its.map It.v)).bs.length = m18 := (S18.row 5 rfl).lenb; L_y (y_assign rfl) rfl (L_nil (hK24 _ _ (T_seq fun K25 hK25 => T_region (L_y (y_move rfl) rfl (L_o (o_bsl [_] te155 zz22 S18 rfl rfl rfl rfl rfl rfl rfl rfl fun b19 w19 S19 => L_o (o_call Tryz.func50 rfl rfl (Sha.shaof [⟨_, _, _, (packV chain (its.map It.v)).bs⟩] _ _ _ w19 (S19.row 6 rfl) (fun p hp => by obtain rfl := List.mem_singleton.1 hp; exact S19.row 5 rfl) (by rw [cat1]; omega) (by simp)) rfl rfl ?_))))))))⟩; rintro e20 w20 ⟨v20, rfl, l20, hu20⟩; refine ⟨_, rfl, ?_⟩; have S20 := S19.like l20; rw [cat1] at hu20; subst hu20; refine L_o (o_alloc zz41 S20 rfl fun b21 w21 hb21 S21 => have S22 := S21.blkc 7 rfl (cs' := bA zB) (by kernel_rfl); L_o (o_stW S22 7 rfl rfl rfl (by first | exact sz41 | (rw [size_bA, Sha.length_ofL]; exact sz41)) (by first | rfl | (rw [size_bA, size_bA, Sha.length_ofL]; rfl)) (Sha.bA_one _) fun w23 S23 => ?_)); refine L_nil (hK25 _ _ (T_seq fun K26 hK26 => T_drawn (fun w => Blk w b4 113 #[.slice m.A m.n m.c, .slice m.A1 its.length m.c1, .slice m.A2 (packV chain (its.map It.v)).os.length m.c2, .slice m.A3 (packV chain (its.map It.v)).os.length m.c3]) [(0, true), (1, true), (3, true), (4, true), (5, true), (6, true), (2, false), (7, true), (8, true), (9, true)] hmix (by kernel_rfl) (fun w l => ((S23.like l).get 4 rfl).1) fun w24 l24 => have S24 := S23.like l24; DL_y rfl (y_move rfl) rfl (DL_y rfl (y_aslice Tryz.underlying41 sz5 rfl) rfl (DL_y rfl (y_move rfl) rfl (DL_y rfl (y_nilp rfl) rfl (DL_y rfl (y_fieldA 2 Tryz.underlying113 rfl sz50 rfl rfl rfl) rfl (DL_y rfl (y_ldS Tryz.underlying50 rfl rfl (fun w h => (h.cell _).trans (by rfl))) rfl ?_))))))); refine DL_o rfl (o_app te22 S24 5 rfl rfl rfl (rs_dig (S24.blk 7 rfl)) (bL_one _) rfl (by omega) (by omega) fun A25 c25 w25 S25 => ⟨(S25.get 4 rfl).1, (DL_y rfl (y_assign rfl) rfl (DL_y rfl (y_assign rfl) rfl (DL_y rfl (y_assign rfl) rfl (DL_nil (hK26 _ _ (T_ret (ur (ret3 rfl rfl rfl rfl ?_))))))))⟩); have he : wrE chain (its.map It.v) = 0 := by unfold wrE; rw [if_neg (by omega), hne]
       have S90 := S25.sel [5, 2] (by decide); have hpl : (packB chain (its.map It.v)).length = (packV chain (its.map It.v)).bs.length + 32 := by unfold packB; rw [List.length_append, Sha.length_ofL]
       have S91 := S90.rowc 0 rfl (n' := (packB chain (its.map It.v)).length) (xs' := bL (packB chain (its.map It.v))) (by rw [hpl]; omega) (by unfold packB; unfold bL; rw [List.map_append]; rfl); have S92 := S91.rowc 1 rfl (n' := (its.map It.v).length) (xs' := (packV chain (its.map It.v)).os.flatMap plO) hW.cnt rfl; refine ⟨_, rfl, .inr ⟨he, _, _, _, _, ?_, S92⟩⟩; rw [hpl, hm18, hW.cnt]; rfl
end Go.Proofs.YtgaklngnfecdaaaGreat.Pak
