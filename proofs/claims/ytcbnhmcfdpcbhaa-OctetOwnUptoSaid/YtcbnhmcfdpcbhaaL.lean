/-
  The law OctetBack.
-/
import Derived.Test.YtcbnhmcfdpcbhaaJ
import Derived.Test.YtcbnhmcfdpcbhaaG
namespace Go.Proofs.Ytcbnhmcfdpcbhaa
open Go.RowKit Zk Zx
set_option linter.unusedVariables false
set_option linter.unusedSimpArgs false

theorem rd_cut {L q rest : List UInt8} {p k : Nat} (h : L.drop p = q ++ rest) (hk : q.length = k) (hp : p ≤ L.length) : k ≤ L.length - p ∧ tkL L p k = q := by
  have h1 := congrArg List.length h
  rw [List.length_drop, List.length_append] at h1
  have h2 : k ≤ L.length - p := by omega
  refine ⟨h2, ?_⟩
  rw [tkL, if_pos h2, h, ← hk, List.take_left]
theorem rw_cut {L q rest : List UInt8} {p k : Nat} (h : L.drop p = q ++ rest) (hk : q.length = k) (hp : p ≤ L.length) : rwL L p 0 k = q ∧ rwP L p 0 k = p + k ∧ rwE L p 0 k = 0 := by
  obtain ⟨h1, h2⟩ := rd_cut h hk hp
  exact ⟨by rw [rwL, if_pos rfl, h2], by rw [rwP, if_pos rfl, tkP, if_pos h1], by rw [rwE, if_pos rfl, tkE_ok h1]⟩
theorem be_all : ∀ (l : List UInt8) (a : Nat), l.foldl (fun n c => n * 256 + c.toNat) a = a * 256 ^ l.length + be l
  | [], a => by simp [be]
  | c :: l, a => by
    have e : be (c :: l) = c.toNat * 256 ^ l.length + be l := by
      rw [be, List.foldl_cons, be_all l]
      simp
    rw [List.foldl_cons, be_all l, e, List.length_cons, Nat.pow_succ, Nat.add_mul, Nat.mul_assoc a, Nat.mul_comm 256, Nat.add_assoc]
theorem be_cons (c : UInt8) (l : List UInt8) : be (c :: l) = c.toNat * 256 ^ l.length + be l := by
  rw [be, List.foldl_cons, be_all l]
  simp
theorem be_tl (v : Nat) : ∀ j, be (tl v j) = v % 256 ^ j
  | 0 => by simp [tl, be, Nat.mod_one]
  | j + 1 => by
    rw [tl, be_cons, length_tl, be_tl v j, UInt8.toNat_ofNat', Nat.mod_mod, Nat.pow_succ, Nat.mod_mul, Nat.add_comm, Nat.mul_comm]
theorem va_cut {L rest : List UInt8} {p x : Nat} (h : L.drop p = vr x ++ rest) (hx : x ≤ 18446744073709551615) : vaN L p 0 x = (x, p + (vr x).length, 0) := by
  have e := numF_of_vr rest x hx
  rw [← h] at e
  rw [vaN, if_neg (by omega), e, if_neg (by simp), if_neg (by simp)]
theorem tx_cut {L q rest : List UInt8} {p : Nat} (h : L.drop p = vr q.length ++ (q ++ rest)) (hx : q.length ≤ 18446744073709551615) (hp : p ≤ L.length) : txN L p 0 (q.length : Int) = (q, p + (vr q.length).length + q.length, 0) := by
  have e := numF_of_vr (q ++ rest) q.length hx
  rw [← h] at e
  have h1 := congrArg List.length h
  rw [List.length_drop, List.length_append] at h1
  have h2 : L.drop (p + (vr q.length).length) = q ++ rest := by rw [← List.drop_drop, h, List.drop_left]
  obtain ⟨h3, h4⟩ := rd_cut h2 rfl (by omega)
  rw [txN, if_neg (by omega), e, if_neg (by simp), if_neg (by simp), if_pos h3, h4]
theorem rn_cut {L q rest : List UInt8} {p : Nat} (h : L.drop p = q ++ rest) (hp : p ≤ L.length) : rnL L p 0 (q.length : Int) = q ∧ rnP L p 0 (q.length : Int) = p + q.length ∧ rnE L p 0 (q.length : Int) = 0 := by
  obtain ⟨h1, h2, h3⟩ := rw_cut h rfl hp
  exact ⟨by rw [rnL, if_neg (by omega), Int.toNat_natCast, h1], by rw [rnP, if_neg (by omega), Int.toNat_natCast, h2], by rw [rnE, if_neg (by omega), Int.toNat_natCast, h3]⟩
theorem ba_eq (s : ByteArray) : (⟨s.data.toList.toArray⟩ : ByteArray) = s := by cases s; simp
theorem ba_len (s : ByteArray) : s.data.toList.length = s.size := by simp
theorem St_rdr {w0 w : World} {M : Nat → Prop} {rs : List Res} {g n c p q p' q' : Nat} {A : Option Addr} {l : List UInt8} (S : St w0 M (rdr g A n c l p q :: rs) w) (hp : p = p') (hq : q = q') : St w0 M [rdr g A n c l p' q'] w := by
  subst hp
  subst hq
  exact S.drop (List.singleton_sublist.2 List.mem_cons_self)
theorem St_wt {w0 w : World} {M : Nat → Prop} {rs : List Res} {g n c : Nat} {A : Option Addr} {l m : List UInt8} (S : St w0 M (wt g A n c l :: rs) w) (h : l = m) : St w0 M [wt g A n c m] w := by
  subst h
  exact S.drop (List.singleton_sublist.2 List.mem_cons_self)
theorem allL_drop (l : List PutR) (k : Nat) (p : PutR) (h : l[k]? = some p) : (allL l).drop (allL (l.take k)).length = lp p ++ allL (l.drop (k + 1)) := by
  have h1 : l = l.take k ++ p :: l.drop (k + 1) := by
    obtain ⟨h2, h3⟩ := List.getElem?_eq_some_iff.1 h
    rw [← h3, ← List.drop_eq_getElem_cons h2, List.take_append_drop]
  conv => lhs; rw [h1]
  have h4 : (l.take k ++ p :: l.drop (k + 1)).take k = l.take k := by rw [← h1]
  rw [h4]
  unfold allL
  rw [List.flatMap_append, List.drop_left, List.flatMap_cons]


set_option maxRecDepth 100000 in
theorem backs (L : Option Addr) (n c0 : Nat) (l : List PutR) (w0 : World) (hln : l.length = n) (hA : (allL l).length ≤ 70368744160000) (hB2 : ∀ k, (allL (l.take k)).length ≤ 70368744160000) (hl : Rs w0 3 L n c0 (l.flatMap pf)) (hx : ∀ (k : Nat) (p : PutR), l[k]? = some p → p.x ≤ 18446744073709551615) (hB : ∀ (k : Nat) (p : PutR), l[k]? = some p → (allL (l.take k)).length + p.s.size ≤ 70368744160000) :
    Calls Try.prog 6 #[.slice L n c0] w0 fun e w' => ∃ u, e = .returned u ∧ Like w0 w' ∧ u = .bool true := by
  refine enter1 (env := [(0, .slice L n c0)]) [.slice L n c0] Try.func6 rfl Try.ntmps6 rfl rfl ?_
  have hnc := hl.cap; have hnm := hl.max; have S0 := St.start w0 noM
  refine T_seq fun K1 hK1 => ?_
  refine T_region ?_
  refine L_y (y_assign rfl) rfl ?_
  refine L_nil ?_
  refine hK1 _ _ ?_
  refine T_seq fun K2 hK2 => ?_
  refine T_region ?_
  refine L_o (o_call Try.func8 rfl rfl (wnew w0) rfl rfl ?_)
  rintro e1 w1 ⟨v1, rfl, l1, b1, rfl, hb1, hh1⟩
  refine ⟨_, rfl, ?_⟩
  have S1 := S0.new l1 _ hh1 (wt_fresh hb1 hh1)
  refine L_y (y_assign rfl) rfl ?_
  refine L_nil ?_
  refine hK2 _ _ ?_
  refine T_seq fun K3 hK3 => ?_
  refine T_seq fun K4 hK4 => ?_
  refine T_region ?_
  refine L_y (y_assign rfl) rfl ?_
  refine L_nil ?_
  refine hK4 _ _ ?_
  refine T_block ?_
  refine T_loop1 [(0, _), (3, _)] (fun (k : Nat) => [(4, .int .i64 (k : Int))]) (fun (k : Nat) => n - k) (fun (k : Nat) (w : World) => k ≤ n ∧ ∃ B n2 c2, St w0 noM [wt b1 B n2 c2 (allL (l.take k))] w) 0 (Sub.cons rfl (by first | rfl | exact congrArg (Value.int _) (by omega)) (Sub.nil _)) (Sub.cons rfl rfl (Sub.cons rfl rfl (Sub.nil _))) ?_ ?_
  ·
    exact ⟨Nat.zero_le _, none, 0, 0, S1⟩
  ·
    intro k w2 hrel
    obtain ⟨hk, B, n2, c2, S2⟩ := hrel
    refine T_seq fun K5 hK5 => ?_
    refine T_seq fun K6 hK6 => ?_
    refine T_region ?_
    refine L_y (y_move rfl) rfl ?_
    refine L_y (y_move rfl) rfl ?_
    refine L_y (y_len Try.underlying22 rfl) rfl ?_
    refine L_y (y_lss rfl rfl) rfl ?_
    refine L_nil ?_
    refine hK6 _ _ ?_
    refine T_cond rfl (fun h13 => ?_) (fun h13 => ?_)
    ·
      obtain ⟨p, hp⟩ : ∃ p, l[k]? = some p := ⟨_, List.getElem?_eq_getElem (by omega)⟩
      have hT := hB2 k
      refine T_skip ?_
      refine hK5 _ _ ?_
      refine T_seq fun K7 hK7 => ?_
      refine T_block ?_
      refine T_region ?_
      refine L_y (y_move rfl) rfl ?_
      refine L_y (y_move rfl) rfl ?_
      refine L_y (y_move rfl) rfl ?_
      refine L_y (y_idx Try.underlying22 sz29 rfl rfl (S2.rd hl) inferInstance (by omega)) rfl ?_
      refine L_y (y_ldp (f := pf) (y := p) pf_len Try.underlying29 rfl sz29 rfl (S2.rd hl) (by omega) hp) rfl ?_
      refine L_o (o_call Try.func9 rfl rfl (lay b1 _ _ _ _ p.d p.x p.s w2 (S2.get 0 rfl) (hx _ _ hp) (by have := hB _ _ hp; omega)) rfl rfl ?_)
      rintro e3 w3 ⟨v3, rfl, ⟨A3, n3, c3, T3⟩⟩
      refine ⟨_, rfl, ?_⟩
      have S3 := S2.turn 0 rfl T3
      refine L_nil ?_
      refine hK7 _ _ ?_
      refine T_region ?_
      refine L_y (y_move rfl) rfl ?_
      refine L_y (y_add rfl rfl (i64w (by omega))) rfl ?_
      refine L_y (y_assign rfl) rfl ?_
      refine L_nil ?_
      refine ⟨k + 1, by omega, ⟨by omega, _, _, _, St_wt S3 (by rw [allL_take l k p hp]; rfl)⟩, ?_⟩
      exact (Sub.cons rfl (by first | rfl | exact congrArg (Value.int _) (by omega)) (Sub.cons rfl rfl (Sub.cons rfl rfl (Sub.nil _))))
    ·
      rw [List.take_of_length_le (by omega)] at S2
      refine T_exit ?_
      refine hK3 _ _ ?_
      refine T_seq fun K8 hK8 => ?_
      refine T_region ?_
      refine L_y (y_move rfl) rfl ?_
      refine L_o (o_call Try.func13 rfl rfl (wbytes _ _ _ _ _ w2 (S2.get 0 rfl) (by omega)) rfl rfl ?_)
      rintro e4 w4 ⟨v4, rfl, l4, A9, M1, c9, rfl, O4⟩
      refine ⟨_, rfl, ?_⟩
      have S4 := S2.adopt l4 O4
      have hmb := (S4.row 1 rfl).lenb
      refine L_o (o_call Try.func15 rfl rfl (rnew _ _ _ (allL l) w4 (S4.row 1 rfl) (by omega)) rfl rfl ?_)
      rintro e5 w5 ⟨v5, rfl, l5, g1, A1, c1, rfl, hh5, dd5⟩
      refine ⟨_, rfl, ?_⟩
      have S5 := S4.new l5 _ hh5 dd5
      have S6 := S5.drop (List.singleton_sublist.2 (List.mem_of_getElem? (show _[2]? = some _ from rfl)))
      refine L_y (y_assign rfl) rfl ?_
      refine L_nil ?_
      refine hK8 _ _ ?_
      refine T_seq fun K9 hK9 => ?_
      refine T_seq fun K10 hK10 => ?_
      refine T_region ?_
      refine L_y (y_assign rfl) rfl ?_
      refine L_nil ?_
      refine hK10 _ _ ?_
      refine T_block ?_
      refine T_loop1 [(0, _), (5, _)] (fun (k : Nat) => [(6, .int .i64 (k : Int))]) (fun (k : Nat) => n - k) (fun (k : Nat) (w : World) => k ≤ n ∧ St w0 noM [rdr g1 A1 M1 c1 (allL l) (allL (l.take k)).length 0] w) 0 (Sub.cons rfl (by first | rfl | exact congrArg (Value.int _) (by omega)) (Sub.nil _)) (Sub.cons rfl rfl (Sub.cons rfl rfl (Sub.nil _))) ?_ ?_
      ·
        exact ⟨Nat.zero_le _, S6⟩
      ·
        intro k w7 hrel
        obtain ⟨hk, S7⟩ := hrel
        refine T_seq fun K11 hK11 => ?_
        refine T_seq fun K12 hK12 => ?_
        refine T_region ?_
        refine L_y (y_move rfl) rfl ?_
        refine L_y (y_move rfl) rfl ?_
        refine L_y (y_len Try.underlying22 rfl) rfl ?_
        refine L_y (y_lss rfl rfl) rfl ?_
        refine L_nil ?_
        refine hK12 _ _ ?_
        refine T_cond rfl (fun h28 => ?_) (fun h28 => ?_)
        ·
          obtain ⟨p, hp⟩ : ∃ p, l[k]? = some p := ⟨_, List.getElem?_eq_getElem (by omega)⟩
          have hdr := allL_drop l k p hp
          have hTk := allL_take l k p hp
          have hpos := allL_takele l k
          have hpx := hx _ _ hp
          have hps := hB _ _ hp
          refine T_skip ?_
          refine hK11 _ _ ?_
          refine T_seq fun K13 hK13 => ?_
          refine T_block ?_
          refine T_seq fun K14 hK14 => ?_
          refine T_region ?_
          refine L_y (y_move rfl) rfl ?_
          refine L_y (y_move rfl) rfl ?_
          refine L_y (y_idx Try.underlying22 sz29 rfl rfl (S7.rd hl) inferInstance (by omega)) rfl ?_
          refine L_y (y_ldp (f := pf) (y := p) pf_len Try.underlying29 rfl sz29 rfl (S7.rd hl) (by omega) hp) rfl ?_
          refine L_o (o_alloc zz29 S7 rfl fun b8 w8 hb8 S8 => ?_)
          refine L_o (o_stW S8 1 rfl rfl rfl sz29 (by rfl) (by intro u hu; simp [pf] at hu; rcases hu with rfl | rfl | rfl <;> rfl) fun w9 S9 => ?_)
          refine L_nil ?_
          refine hK14 _ _ ?_
          refine T_seq fun K15 hK15 => ?_
          refine T_region ?_
          refine L_y (y_assign rfl) rfl ?_
          refine L_nil ?_
          refine hK15 _ _ ?_
          refine T_seq fun K16 hK16 => ?_
          refine T_seq fun K17 hK17 => ?_
          refine T_region ?_
          refine L_y (y_fieldA 0 Try.underlying29 rfl sz3 rfl rfl rfl) rfl ?_
          refine L_y (y_ldc Try.underlying3 rfl rfl (((S9.blk 1 rfl).cell _).trans (by rfl))) rfl ?_
          refine L_nil ?_
          refine hK17 _ _ ?_
          refine T_block ?_
          refine T_seq fun K18 hK18 => ?_
          refine T_region ?_
          refine L_y (y_eql rfl rfl) rfl ?_
          refine L_y (y_assign rfl) rfl ?_
          refine L_nil ?_
          refine hK18 _ _ ?_
          refine T_cond rfl (fun h46 => ?_) (fun h46 => ?_)
          ·
            have hlp : lp p = [UInt8.ofNat p.x] := by unfold lp laidL; rw [if_pos (by omega)]
            rw [hlp] at hdr hTk
            obtain ⟨e1, e2, e3⟩ := rw_cut (k := 1) hdr (by simp [length_tl]) hpos
            have hS : ((be (rwL (allL l) (allL (l.take k)).length 0 1) : Nat) : Int) = (p.x : Int) % 256 := by rw [e1]; simp [be, UInt8.toNat_ofNat']
            have hP : rwP (allL l) (allL (l.take k)).length 0 1 = (allL (l.take (k + 1))).length := by rw [e2, hTk, List.length_append]; simp [length_tl]
            have hQ := e3
            refine T_drawn (fun w => Blk w b8 29 #[.int .i64 p.d, .int .u64 (p.x : Int), .string p.s]) [(0, true), (2, true), (3, true), (4, true), (1, false), (5, true), (6, true)] hmix (by kernel_rfl) (fun w l => (S9.like l).blk 1 rfl) fun w10 l10 => ?_
            have S10 := S9.like l10
            refine DL_y rfl (y_move rfl) rfl ?_
            refine DL_y rfl (y_fieldA 1 Try.underlying29 rfl sz27 rfl rfl rfl) rfl ?_
            refine DL_y rfl (y_ldS Try.underlying27 rfl rfl (fun w h => (h.cell _).trans (by rfl))) rfl ?_
            refine DL_y rfl (y_conv is27 Try.underlying5 rfl (IntKind.wrap_u8 _)) rfl ?_
            refine DL_o rfl (o_call Try.func24 rfl rfl (rbyte g1 A1 _ c1 (allL l) (allL (l.take k)).length 0 w10 (S10.get 0 rfl) hpos (by omega)) rfl rfl ?_)
            rintro e11 w11 ⟨v11, rfl, rfl, T11⟩
            refine ⟨_, rfl, ?_⟩
            have S11 := S10.turn 0 rfl T11
            refine ⟨S11.blk 1 rfl, ?_⟩
            refine DL_y rfl (y_eql rfl rfl) rfl ?_
            refine DL_y rfl (y_assign rfl) rfl ?_
            refine DL_nil ?_
            refine hK16 _ _ ?_
            refine T_seq fun K19 hK19 => ?_
            refine T_region ?_
            refine L_y (y_move rfl) rfl ?_
            refine L_y ((by first | exact y_notD rfl | exact y_not rfl)) rfl ?_
            refine L_nil ?_
            refine hK19 _ _ ?_
            refine T_cond rfl (fun h89 => ?_) (fun h89 => ?_)
            ·
              exact absurd hS h89
            ·
              refine T_skip ?_
              refine hK13 _ _ ?_
              refine T_region ?_
              refine L_y (y_move rfl) rfl ?_
              refine L_y (y_add rfl rfl (i64w (by omega))) rfl ?_
              refine L_y (y_assign rfl) rfl ?_
              refine L_nil ?_
              refine ⟨k + 1, by omega, ⟨by omega, St_rdr S11 hP hQ⟩, ?_⟩
              exact (Sub.cons rfl (by first | rfl | exact congrArg (Value.int _) (by omega)) (Sub.cons rfl rfl (Sub.cons rfl rfl (Sub.nil _))))
          ·
            refine T_seq fun K20 hK20 => ?_
            refine T_region ?_
            refine L_y (y_eql rfl rfl) rfl ?_
            refine L_y (y_assign rfl) rfl ?_
            refine L_nil ?_
            refine hK20 _ _ ?_
            refine T_cond rfl (fun h54 => ?_) (fun h54 => ?_)
            ·
              have hlp : lp p = tl (p.x % 4294967296) 4 := by unfold lp laidL; rw [if_neg (by omega)]; rw [if_pos (by omega)]
              rw [hlp] at hdr hTk
              obtain ⟨e1, e2, e3⟩ := rw_cut (k := 4) hdr (by simp [length_tl]) hpos
              have hS : ((be (rwL (allL l) (allL (l.take k)).length 0 4) : Nat) : Int) = (p.x : Int) % 4294967296 := by rw [e1]; rw [be_tl]; omega
              have hP : rwP (allL l) (allL (l.take k)).length 0 4 = (allL (l.take (k + 1))).length := by rw [e2, hTk, List.length_append]; simp [length_tl]
              have hQ := e3
              refine T_drawn (fun w => Blk w b8 29 #[.int .i64 p.d, .int .u64 (p.x : Int), .string p.s]) [(0, true), (2, true), (3, true), (4, true), (1, false), (5, true), (6, true)] hmix (by kernel_rfl) (fun w l => (S9.like l).blk 1 rfl) fun w12 l12 => ?_
              have S12 := S9.like l12
              refine DL_y rfl (y_move rfl) rfl ?_
              refine DL_y rfl (y_fieldA 1 Try.underlying29 rfl sz27 rfl rfl rfl) rfl ?_
              refine DL_y rfl (y_ldS Try.underlying27 rfl rfl (fun w h => (h.cell _).trans (by rfl))) rfl ?_
              refine DL_y rfl (y_conv is27 Try.underlying54 rfl (IntKind.wrap_u32 _)) rfl ?_
              refine DL_o rfl (o_call Try.func25 rfl rfl (ru32 g1 A1 _ c1 (allL l) (allL (l.take k)).length 0 w12 (S12.get 0 rfl) hpos (by omega)) rfl rfl ?_)
              rintro e13 w13 ⟨v13, rfl, rfl, T13⟩
              refine ⟨_, rfl, ?_⟩
              have S13 := S12.turn 0 rfl T13
              refine ⟨S13.blk 1 rfl, ?_⟩
              refine DL_y rfl (y_eql rfl rfl) rfl ?_
              refine DL_y rfl (y_assign rfl) rfl ?_
              refine DL_nil ?_
              refine hK16 _ _ ?_
              refine T_seq fun K21 hK21 => ?_
              refine T_region ?_
              refine L_y (y_move rfl) rfl ?_
              refine L_y ((by first | exact y_notD rfl | exact y_not rfl)) rfl ?_
              refine L_nil ?_
              refine hK21 _ _ ?_
              refine T_cond rfl (fun h89 => ?_) (fun h89 => ?_)
              ·
                exact absurd hS h89
              ·
                refine T_skip ?_
                refine hK13 _ _ ?_
                refine T_region ?_
                refine L_y (y_move rfl) rfl ?_
                refine L_y (y_add rfl rfl (i64w (by omega))) rfl ?_
                refine L_y (y_assign rfl) rfl ?_
                refine L_nil ?_
                refine ⟨k + 1, by omega, ⟨by omega, St_rdr S13 hP hQ⟩, ?_⟩
                exact (Sub.cons rfl (by first | rfl | exact congrArg (Value.int _) (by omega)) (Sub.cons rfl rfl (Sub.cons rfl rfl (Sub.nil _))))
            ·
              refine T_seq fun K22 hK22 => ?_
              refine T_region ?_
              refine L_y (y_eql rfl rfl) rfl ?_
              refine L_y (y_assign rfl) rfl ?_
              refine L_nil ?_
              refine hK22 _ _ ?_
              refine T_cond rfl (fun h62 => ?_) (fun h62 => ?_)
              ·
                have hlp : lp p = tl p.x 8 := by unfold lp laidL; rw [if_neg (by omega)]; rw [if_neg (by omega)]; rw [if_pos (by omega)]
                rw [hlp] at hdr hTk
                obtain ⟨e1, e2, e3⟩ := rw_cut (k := 8) hdr (by simp [length_tl]) hpos
                have hS : ((be (rwL (allL l) (allL (l.take k)).length 0 8) : Nat) : Int) = (p.x : Int) := by rw [e1]; rw [be_tl]; omega
                have hP : rwP (allL l) (allL (l.take k)).length 0 8 = (allL (l.take (k + 1))).length := by rw [e2, hTk, List.length_append]; simp [length_tl]
                have hQ := e3
                refine T_drawn (fun w => Blk w b8 29 #[.int .i64 p.d, .int .u64 (p.x : Int), .string p.s]) [(0, true), (2, true), (3, true), (1, false), (4, true), (5, true)] hmix (by kernel_rfl) (fun w l => (S9.like l).blk 1 rfl) fun w14 l14 => ?_
                have S14 := S9.like l14
                refine DL_y rfl (y_move rfl) rfl ?_
                refine DL_y rfl (y_fieldA 1 Try.underlying29 rfl sz27 rfl rfl rfl) rfl ?_
                refine DL_y rfl (y_ldS Try.underlying27 rfl rfl (fun w h => (h.cell _).trans (by rfl))) rfl ?_
                refine DL_o rfl (o_call Try.func26 rfl rfl (ru64 g1 A1 _ c1 (allL l) (allL (l.take k)).length 0 w14 (S14.get 0 rfl) hpos (by omega)) rfl rfl ?_)
                rintro e15 w15 ⟨v15, rfl, rfl, T15⟩
                refine ⟨_, rfl, ?_⟩
                have S15 := S14.turn 0 rfl T15
                refine ⟨S15.blk 1 rfl, ?_⟩
                refine DL_y rfl (y_eql rfl rfl) rfl ?_
                refine DL_y rfl (y_assign rfl) rfl ?_
                refine DL_nil ?_
                refine hK16 _ _ ?_
                refine T_seq fun K23 hK23 => ?_
                refine T_region ?_
                refine L_y (y_move rfl) rfl ?_
                refine L_y ((by first | exact y_notD rfl | exact y_not rfl)) rfl ?_
                refine L_nil ?_
                refine hK23 _ _ ?_
                refine T_cond rfl (fun h89 => ?_) (fun h89 => ?_)
                ·
                  exact absurd hS h89
                ·
                  refine T_skip ?_
                  refine hK13 _ _ ?_
                  refine T_region ?_
                  refine L_y (y_move rfl) rfl ?_
                  refine L_y (y_add rfl rfl (i64w (by omega))) rfl ?_
                  refine L_y (y_assign rfl) rfl ?_
                  refine L_nil ?_
                  refine ⟨k + 1, by omega, ⟨by omega, St_rdr S15 hP hQ⟩, ?_⟩
                  exact (Sub.cons rfl (by first | rfl | exact congrArg (Value.int _) (by omega)) (Sub.cons rfl rfl (Sub.cons rfl rfl (Sub.nil _))))
              ·
                refine T_seq fun K24 hK24 => ?_
                refine T_region ?_
                refine L_y (y_eql rfl rfl) rfl ?_
                refine L_y (y_assign rfl) rfl ?_
                refine L_nil ?_
                refine hK24 _ _ ?_
                refine T_cond rfl (fun h69 => ?_) (fun h69 => ?_)
                ·
                  have hlp : lp p = vr p.x := by unfold lp laidL; rw [if_neg (by omega)]; rw [if_neg (by omega)]; rw [if_neg (by omega)]; rw [if_pos (by omega)]
                  rw [hlp] at hdr hTk
                  have e1 := va_cut hdr hpx
                  have hS : ((vaN (allL l) (allL (l.take k)).length 0 p.x).1 : Int) = (p.x : Int) := by rw [e1]
                  have hP : (vaN (allL l) (allL (l.take k)).length 0 p.x).2.1 = (allL (l.take (k + 1))).length := by rw [e1, hTk, List.length_append]
                  have hQ : (vaN (allL l) (allL (l.take k)).length 0 p.x).2.2 = 0 := by rw [e1]
                  refine T_drawn (fun w => Blk w b8 29 #[.int .i64 p.d, .int .u64 (p.x : Int), .string p.s]) [(0, true), (1, true), (2, true), (4, true), (5, true), (3, false), (6, true), (7, true)] hmix (by kernel_rfl) (fun w l => (S9.like l).blk 1 rfl) fun w16 l16 => ?_
                  have S16 := S9.like l16
                  refine DL_y rfl (y_move rfl) rfl ?_
                  refine DL_y rfl (y_fieldA 1 Try.underlying29 rfl sz27 rfl rfl rfl) rfl ?_
                  refine DL_y rfl (y_ldS Try.underlying27 rfl rfl (fun w h => (h.cell _).trans (by rfl))) rfl ?_
                  refine DL_y rfl (y_fieldA 1 Try.underlying29 rfl sz27 rfl rfl rfl) rfl ?_
                  refine DL_y rfl (y_ldS Try.underlying27 rfl rfl (fun w h => (h.cell _).trans (by rfl))) rfl ?_
                  refine DL_o rfl (o_call Try.func16 rfl rfl (rvar g1 A1 _ c1 (allL l) (allL (l.take k)).length 0 p.x w16 (S16.get 0 rfl) hpos (by omega)) rfl rfl ?_)
                  rintro e17 w17 ⟨v17, rfl, rfl, T17⟩
                  refine ⟨_, rfl, ?_⟩
                  have S17 := S16.turn 0 rfl T17
                  refine ⟨S17.blk 1 rfl, ?_⟩
                  refine DL_y rfl (y_eql rfl rfl) rfl ?_
                  refine DL_y rfl (y_assign rfl) rfl ?_
                  refine DL_nil ?_
                  refine hK16 _ _ ?_
                  refine T_seq fun K25 hK25 => ?_
                  refine T_region ?_
                  refine L_y (y_move rfl) rfl ?_
                  refine L_y ((by first | exact y_notD rfl | exact y_not rfl)) rfl ?_
                  refine L_nil ?_
                  refine hK25 _ _ ?_
                  refine T_cond rfl (fun h89 => ?_) (fun h89 => ?_)
                  ·
                    exact absurd hS h89
                  ·
                    refine T_skip ?_
                    refine hK13 _ _ ?_
                    refine T_region ?_
                    refine L_y (y_move rfl) rfl ?_
                    refine L_y (y_add rfl rfl (i64w (by omega))) rfl ?_
                    refine L_y (y_assign rfl) rfl ?_
                    refine L_nil ?_
                    refine ⟨k + 1, by omega, ⟨by omega, St_rdr S17 hP hQ⟩, ?_⟩
                    exact (Sub.cons rfl (by first | rfl | exact congrArg (Value.int _) (by omega)) (Sub.cons rfl rfl (Sub.cons rfl rfl (Sub.nil _))))
                ·
                  refine T_seq fun K26 hK26 => ?_
                  refine T_region ?_
                  refine L_y (y_eql rfl rfl) rfl ?_
                  refine L_y (y_assign rfl) rfl ?_
                  refine L_nil ?_
                  refine hK26 _ _ ?_
                  refine T_cond rfl (fun h78 => ?_) (fun h78 => ?_)
                  ·
                    have hlp : lp p = vr p.s.size ++ p.s.data.toList := by unfold lp laidL; rw [if_neg (by omega)]; rw [if_neg (by omega)]; rw [if_neg (by omega)]; rw [if_neg (by omega)]; rw [if_pos (by omega)]
                    rw [hlp] at hdr hTk
                    rw [← ba_len p.s, List.append_assoc] at hdr
                    have e1 := tx_cut hdr (by rw [ba_len]; omega) hpos
                    rw [ba_len] at e1
                    have hS : (⟨(txN (allL l) (allL (l.take k)).length 0 (p.s.size : Int)).1.toArray⟩ : ByteArray) = p.s := by rw [e1] <;> exact ba_eq _
                    have hP : (txN (allL l) (allL (l.take k)).length 0 (p.s.size : Int)).2.1 = (allL (l.take (k + 1))).length := by rw [e1, hTk, List.length_append, List.length_append, ba_len]; simp only; omega
                    have hQ : (txN (allL l) (allL (l.take k)).length 0 (p.s.size : Int)).2.2 = 0 := by rw [e1]
                    refine T_drawn (fun w => Blk w b8 29 #[.int .i64 p.d, .int .u64 (p.x : Int), .string p.s]) [(0, true), (1, true), (2, true), (3, true), (5, true), (6, true), (4, false), (7, true), (8, true)] hmix (by kernel_rfl) (fun w l => (S9.like l).blk 1 rfl) fun w18 l18 => ?_
                    have S18 := S9.like l18
                    refine DL_y rfl (y_move rfl) rfl ?_
                    refine DL_y rfl (y_fieldA 2 Try.underlying29 rfl sz9 rfl rfl rfl) rfl ?_
                    refine DL_y rfl (y_ldS Try.underlying9 rfl rfl (fun w h => (h.cell _).trans (by rfl))) rfl ?_
                    refine DL_y rfl (y_lens Try.underlying9 rfl) rfl ?_
                    refine DL_y rfl (y_fieldA 2 Try.underlying29 rfl sz9 rfl rfl rfl) rfl ?_
                    refine DL_y rfl (y_ldS Try.underlying9 rfl rfl (fun w h => (h.cell _).trans (by rfl))) rfl ?_
                    refine DL_o rfl (o_call Try.func17 rfl rfl (rtext g1 A1 _ c1 (allL l) (allL (l.take k)).length 0 (p.s.size : Int) w18 (S18.get 0 rfl) hpos (by omega) (by omega)) rfl rfl ?_)
                    rintro e19 w19 ⟨v19, rfl, rfl, T19⟩
                    refine ⟨_, rfl, ?_⟩
                    have S19 := S18.turn 0 rfl T19
                    refine ⟨S19.blk 1 rfl, ?_⟩
                    refine DL_y rfl (y_seql rfl rfl) rfl ?_
                    refine DL_y rfl (y_assign rfl) rfl ?_
                    refine DL_nil ?_
                    refine hK16 _ _ ?_
                    refine T_seq fun K27 hK27 => ?_
                    refine T_region ?_
                    refine L_y (y_move rfl) rfl ?_
                    refine L_y ((by first | exact y_notD rfl | exact y_not rfl)) rfl ?_
                    refine L_nil ?_
                    refine hK27 _ _ ?_
                    refine T_cond rfl (fun h89 => ?_) (fun h89 => ?_)
                    ·
                      exact absurd hS h89
                    ·
                      refine T_skip ?_
                      refine hK13 _ _ ?_
                      refine T_region ?_
                      refine L_y (y_move rfl) rfl ?_
                      refine L_y (y_add rfl rfl (i64w (by omega))) rfl ?_
                      refine L_y (y_assign rfl) rfl ?_
                      refine L_nil ?_
                      refine ⟨k + 1, by omega, ⟨by omega, St_rdr S19 hP hQ⟩, ?_⟩
                      exact (Sub.cons rfl (by first | rfl | exact congrArg (Value.int _) (by omega)) (Sub.cons rfl rfl (Sub.cons rfl rfl (Sub.nil _))))
                  ·
                    have hlp : lp p = p.s.data.toList := by unfold lp laidL; rw [if_neg (by omega)]; rw [if_neg (by omega)]; rw [if_neg (by omega)]; rw [if_neg (by omega)]; rw [if_neg (by omega)]
                    rw [hlp] at hdr hTk
                    obtain ⟨e1, e2, e3⟩ := rn_cut hdr hpos
                    rw [ba_len] at e1 e2 e3
                    have hS : (⟨(rnL (allL l) (allL (l.take k)).length 0 (p.s.size : Int)).toArray⟩ : ByteArray) = p.s := by rw [e1] <;> exact ba_eq _
                    have hP : rnP (allL l) (allL (l.take k)).length 0 (p.s.size : Int) = (allL (l.take (k + 1))).length := by rw [e2, hTk, List.length_append, ba_len]
                    have hQ := e3
                    refine T_drawn (fun w => Blk w b8 29 #[.int .i64 p.d, .int .u64 (p.x : Int), .string p.s]) [(0, true), (1, true), (2, true), (3, true), (6, true), (7, true), (4, false), (5, false), (8, true), (9, true)] hmix (by kernel_rfl) (fun w l => (S9.like l).blk 1 rfl) fun w20 l20 => ?_
                    have S20 := S9.like l20
                    refine DL_y rfl (y_move rfl) rfl ?_
                    refine DL_y rfl (y_fieldA 2 Try.underlying29 rfl sz9 rfl rfl rfl) rfl ?_
                    refine DL_y rfl (y_ldS Try.underlying9 rfl rfl (fun w h => (h.cell _).trans (by rfl))) rfl ?_
                    refine DL_y rfl (y_lens Try.underlying9 rfl) rfl ?_
                    refine DL_y rfl (y_fieldA 2 Try.underlying29 rfl sz9 rfl rfl rfl) rfl ?_
                    refine DL_y rfl (y_ldS Try.underlying9 rfl rfl (fun w h => (h.cell _).trans (by rfl))) rfl ?_
                    refine DL_o rfl (o_call Try.func27 rfl rfl (rraw g1 A1 _ c1 (allL l) (allL (l.take k)).length 0 (p.s.size : Int) w20 (S20.get 0 rfl) hpos (by omega) (by omega)) rfl rfl ?_)
                    rintro e21 w21 ⟨v21, rfl, T21, B9, d9, rfl, hr21, hd21⟩
                    refine ⟨_, rfl, ?_⟩
                    have S21 := S20.turn 0 rfl T21
                    have HR := rs_of_row hr21
                    refine ⟨S21.blk 1 rfl, ?_⟩
                    refine DL_o rfl (o_y (y_bstr Try.underlying25 Try.underlying5 Try.underlying9 rfl HR) (Like.refl _) rfl ⟨S21.blk 1 rfl, ?_⟩)
                    refine DL_y rfl (y_seql rfl rfl) rfl ?_
                    refine DL_y rfl (y_assign rfl) rfl ?_
                    refine DL_nil ?_
                    refine hK16 _ _ ?_
                    refine T_seq fun K28 hK28 => ?_
                    refine T_region ?_
                    refine L_y (y_move rfl) rfl ?_
                    refine L_y ((by first | exact y_notD rfl | exact y_not rfl)) rfl ?_
                    refine L_nil ?_
                    refine hK28 _ _ ?_
                    refine T_cond rfl (fun h89 => ?_) (fun h89 => ?_)
                    ·
                      exact absurd hS h89
                    ·
                      refine T_skip ?_
                      refine hK13 _ _ ?_
                      refine T_region ?_
                      refine L_y (y_move rfl) rfl ?_
                      refine L_y (y_add rfl rfl (i64w (by omega))) rfl ?_
                      refine L_y (y_assign rfl) rfl ?_
                      refine L_nil ?_
                      refine ⟨k + 1, by omega, ⟨by omega, St_rdr S21 hP hQ⟩, ?_⟩
                      exact (Sub.cons rfl (by first | rfl | exact congrArg (Value.int _) (by omega)) (Sub.cons rfl rfl (Sub.cons rfl rfl (Sub.nil _))))
        ·
          rw [List.take_of_length_le (by omega)] at S7
          refine T_exit ?_
          refine hK9 _ _ ?_
          refine T_seq fun K29 hK29 => ?_
          refine T_region ?_
          refine L_y (y_move rfl) rfl ?_
          refine L_o (o_call Try.func28 rfl rfl (rend g1 A1 _ c1 (allL l) (allL l).length 0 w7 (S7.get 0 rfl) (Nat.le_refl _)) rfl rfl ?_)
          rintro e22 w22 ⟨v22, rfl, l22, rfl⟩
          refine ⟨_, rfl, ?_⟩
          have S22 := S7.like l22
          refine L_y (y_eql rfl rfl) rfl ?_
          refine L_y (y_move rfl) rfl ?_
          refine L_split 93 rfl (fun h93 => ?_) (fun h93 => ?_)
          ·
            refine L_gyes rfl rfl ?_
            refine L_o (o_call Try.func14 rfl rfl (works w22) rfl rfl ?_)
            rintro e24 w24 ⟨v24, rfl, l24, rfl⟩
            refine ⟨_, rfl, ?_⟩
            have S24 := S22.like l24
            refine L_y ((by first | exact y_pickT rfl rfl | exact y_pickF rfl rfl)) rfl ?_
            refine L_y (y_assign rfl) rfl ?_
            refine L_nil ?_
            refine hK29 _ _ ?_
            refine T_ret ?_
            repeat (first | with_reducible refine up_then ?_ | with_reducible refine up_in ?_)
            refine ret1 rfl rfl ?_
            first | exact ⟨_, rfl, S24.like0, rfl⟩ | (exfalso; omega)
          ·
            refine L_gno rfl rfl rfl ?_
            refine L_y ((by first | exact y_pickT rfl rfl | exact y_pickF rfl rfl)) rfl ?_
            refine L_y (y_assign rfl) rfl ?_
            refine L_nil ?_
            refine hK29 _ _ ?_
            refine T_ret ?_
            repeat (first | with_reducible refine up_then ?_ | with_reducible refine up_in ?_)
            refine ret1 rfl rfl ?_
            first | exact ⟨_, rfl, S22.like0, rfl⟩ | (exfalso; omega)


theorem backs_small (L : Option Addr) (n c0 : Nat) (l : List PutR) (w0 : World) (hl : Rs w0 3 L n c0 (l.flatMap pf)) (hx : ∀ y ∈ l, y.x ≤ 18446744073709551615 ∧ (Lit.int .i64 y.d).wf = true) (hln : l.length = n) (hs : (l.map wgt).sum + 1 ≤ 1048576) :
    Calls Try.prog 6 #[.slice L n c0] w0 fun e w' => e = .returned (.bool true) ∧ Below w0.heap.size w0 w' := by
  have hm : ∀ y ∈ l, y.s.size ≤ 1048576 := fun y hy => by have := wgt_mem l y hy; have : wgt y = y.s.size + 4 := rfl; omega
  have ha := allL_le l (fun y hy => ⟨(hx y hy).1, hm y hy⟩)
  refine (backs L n c0 l w0 hln (by omega) (fun k => by have := allL_takele l k; omega) hl (fun k p hp => (hx p (List.mem_of_getElem? hp)).1) (fun k p hp => by have := allL_takele l k; have := hm p (List.mem_of_getElem? hp); omega)).mono fun e w' ⟨u, h1, h2, h3⟩ => ?_
  subst h3
  exact ⟨h1, h2⟩
end Go.Proofs.Ytcbnhmcfdpcbhaa
