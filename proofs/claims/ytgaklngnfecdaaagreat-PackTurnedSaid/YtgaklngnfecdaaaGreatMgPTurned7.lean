import Derived.Test.YtgaklngnfecdaaaGreatMgPTurned3
import Derived.Test.YtgaklngnfecdaaaGreatMgPTurned5
import Derived.Test.YtgaklngnfecdaaaGreatMgPTurned6
import Derived.Test.YtgaklngnfecdaaaGreatMgPTurned2
set_option linter.unusedSimpArgs false
set_option linter.unusedVariables false
set_option maxRecDepth 100000
namespace Go.Proofs.YtgaklngnfecdaaaGreat.Oct
open Go.RowKit Zk Zx
def rdr (g : Nat) (A : Option Addr) (n c : Nat) (l : List UInt8) (p q : Nat) : Res := both (blk g 218 #[.slice A n c, .int .i64 (p : Int), .int .i64 (q : Int)]) (row 5 1 A n c (bL l))
theorem rdr_apart {w : World} {g n c p q : Nat} {A : Option Addr} {l : List UInt8} (h : (rdr g A n c l p q).holds w) : ∀ i, (blk g 218 #[.slice A n c, .int .i64 (p : Int), .int .i64 (q : Int)]).dom i → ¬ (row 5 1 A n c (bL l)).dom i := fun i hi hr => by
  have hi' : i = g := hi
  subst hi'
  exact own_blk_ne (e := 5) h.2 h.1 (by decide) hr
theorem rdr_lt {w : World} {g n c p q : Nat} {A : Option Addr} {l : List UInt8} (h : (rdr g A n c l p q).holds w) : ∀ i, (rdr g A n c l p q).dom i → i < w.heap.size := fun i hi => by
  rcases hi with hi | hi
  · have hi' : i = g := hi
    subst hi'
    exact Blk.lt h.1
  · exact (World.ownsRow.lt h.2 i hi).2
theorem rdr_len {w : World} {g n c p q : Nat} {A : Option Addr} {l : List UInt8} (h : (rdr g A n c l p q).holds w) : l.length = n := by
  have := h.2.1
  simpa using this
def tkL (l : List UInt8) (p k : Nat) : List UInt8 := if k ≤ l.length - p then (l.drop p).take k else []
def tkP (l : List UInt8) (p k : Nat) : Nat := if k ≤ l.length - p then p + k else p
def tkE (l : List UInt8) (p k q : Nat) : Nat := if k ≤ l.length - p then q else 10
theorem fresh_ {w0 w : World} {rs : List Res} (S : St w0 noM rs w) (k : Nat) {r : Res} (hk : rs[k]? = some r) : ∀ i, r.dom i → w0.heap.size ≤ i ∧ i < w.heap.size := fun i hi => by
  have := (S.res r (List.mem_of_getElem? hk)).2 i hi
  rcases this.2 with h | h
  · exact ⟨h, this.1⟩
  · exact h.elim
theorem tkP_le (l : List UInt8) (p k : Nat) (h : p ≤ l.length) : tkP l p k ≤ l.length := by unfold tkP; split <;> omega
theorem Rdd.of {w w' : World} {g n c p q : Nat} {A : Option Addr} {l : List UInt8} {r : Res} {X : Array Value} (h : Turned w w' r (both (blk g 218 X) (row 5 1 A n c (bL l)))) (hX : X = #[.slice A n c, .int .i64 (p : Int), .int .i64 (q : Int)]) : Turned w w' r (rdr g A n c l p q) := by
  subst hX
  exact h
theorem rdead (g : Nat) (A : Option Addr) (n c : Nat) (l : List UInt8) (p q : Nat) (w0 : World) (hw : (rdr g A n c l p q).holds w0) (hp : p ≤ l.length) :
    Calls Tryz.prog 137 #[.pointer (some ⟨g, 0, none⟩)] w0 fun e w' => ∃ u, e = .returned u ∧ Like w0 w' ∧ u = .bool (decide ((q : Int) ≠ 0)) := by
 refine enter1 (env := [(0, .pointer (some ⟨g, 0, none⟩))]) [.pointer (some ⟨g, 0, none⟩)] Tryz.func137 rfl Tryz.ntmps137 rfl rfl ?_; have hnl := rdr_len hw; have hnc := ownsRow_cap hw.2; have S0 := St.start w0 noM; refine T_seq fun K1 hK1 => T_region (L_y (y_assign rfl) rfl (L_nil (hK1 _ _ (T_seq fun K2 hK2 => T_region (L_y (y_move rfl) rfl (L_y (y_peqn Tryz.underlying172 rfl) rfl (L_y (y_move rfl) rfl ?_))))))); refine L_gyes rfl rfl (L_y (y_move rfl) rfl (L_gyes rfl rfl (L_y (y_nilp rfl) rfl (L_gyes rfl rfl (L_y (y_fieldA 2 Tryz.underlying218 rfl sz24 rfl rfl rfl) rfl (L_gyes rfl rfl (L_y (y_ldc Tryz.underlying24 rfl rfl (((S0.rdB hw.1).cell _).trans (show (#[.slice A n c, .int .i64 (p : Int), .int .i64 (q : Int)] : Array Value)[2]? = some (Value.int .i64 (q : Int)) from rfl))) rfl (L_gyes rfl rfl (L_y (y_neq rfl rfl) rfl ?_))))))))); refine L_y (y_pickF rfl rfl) rfl (L_y (y_assign rfl) rfl (L_nil (hK2 _ _ (T_ret ?_)))); repeat (first | with_reducible refine up_then ?_ | with_reducible refine up_in ?_)
 refine ret1 rfl rfl ?_; exact ⟨_, rfl, S0.like0, rfl⟩
theorem rerr (g : Nat) (A : Option Addr) (n c : Nat) (l : List UInt8) (p q : Nat) (w0 : World) (hw : (rdr g A n c l p q).holds w0) (hp : p ≤ l.length) :
    Calls Tryz.prog 128 #[.pointer (some ⟨g, 0, none⟩)] w0 fun e w' => ∃ u, e = .returned u ∧ Like w0 w' ∧ u = .int .i64 (q : Int) := by
 refine enter1 (env := [(0, .pointer (some ⟨g, 0, none⟩))]) [.pointer (some ⟨g, 0, none⟩)] Tryz.func128 rfl Tryz.ntmps128 rfl rfl ?_; have hnl := rdr_len hw; have hnc := ownsRow_cap hw.2; have S0 := St.start w0 noM; refine T_seq fun K1 hK1 => T_region (L_y (y_assign rfl) rfl (L_nil (hK1 _ _ (T_seq fun K2 hK2 => T_seq fun K3 hK3 => T_region (L_y (y_move rfl) rfl (L_y (y_peqn Tryz.underlying172 rfl) rfl ?_)))))); refine L_nil (hK3 _ _ (T_false rfl (T_skip (hK2 _ _ (T_seq fun K4 hK4 => T_region (L_y (y_move rfl) rfl (L_y (y_nilp rfl) rfl (L_y (y_fieldA 2 Tryz.underlying218 rfl sz24 rfl rfl rfl) rfl ?_)))))))); refine L_y (y_ldc Tryz.underlying24 rfl rfl (((S0.rdB hw.1).cell _).trans (show (#[.slice A n c, .int .i64 (p : Int), .int .i64 (q : Int)] : Array Value)[2]? = some (Value.int .i64 (q : Int)) from rfl))) rfl (L_y (y_assign rfl) rfl (L_nil (hK4 _ _ (T_ret ?_)))); repeat (first | with_reducible refine up_then ?_ | with_reducible refine up_in ?_)
 refine ret1 rfl rfl ?_; exact ⟨_, rfl, S0.like0, rfl⟩
theorem rtake (g : Nat) (A : Option Addr) (n c : Nat) (l : List UInt8) (p q : Nat) (k : Nat) (w0 : World) (hw : (rdr g A n c l p q).holds w0) (hp : p ≤ l.length) (hk63 : k ≤ 9223372036854775807) (hn62 : n ≤ 4611686018427387904) :
    Calls Tryz.prog 139 #[.pointer (some ⟨g, 0, none⟩), .int .i64 (k : Int)] w0 fun e w' => ∃ u, e = .returned u ∧ ∃ B c2, u = .slice B (tkL l p k).length c2 ∧ Rs w' 1 B (tkL l p k).length c2 (bL (tkL l p k)) ∧ Turned w0 w' (rdr g A n c l p q) (rdr g A n c l (tkP l p k) (tkE l p k q)) := by
 refine enter1 (env := [(0, .pointer (some ⟨g, 0, none⟩)), (1, .int .i64 (k : Int))]) [.pointer (some ⟨g, 0, none⟩), .int .i64 (k : Int)] Tryz.func139 rfl Tryz.ntmps139 rfl rfl ?_; have hnl := rdr_len hw; have hnc := ownsRow_cap hw.2; have S0 := St.borrow2 (blk g 218 #[.slice A n c, .int .i64 (p : Int), .int .i64 (q : Int)]) (row 5 1 A n c (bL l)) hw.1 hw.2 (rdr_lt hw) (rdr_apart hw); refine T_seq fun K1 hK1 => T_region (L_y (y_assign rfl) rfl (L_nil (hK1 _ _ (T_seq fun K2 hK2 => T_seq fun K3 hK3 => T_drawnL [(0, true), (1, true), (2, true), (3, true), (4, true), (5, true), (6, true), (7, true), (8, true), (9, true), (10, true), (11, true)] hmix (by kernel_rfl) fun w1 l1 => ?_)))); have S1 := S0.like l1; refine DL_y rfl (y_move rfl) rfl (DL_y rfl (y_move rfl) rfl (DL_y rfl (y_nilp rfl) rfl (DL_y rfl (y_fieldA 0 Tryz.underlying218 rfl sz22 rfl rfl rfl) rfl (DL_y rfl (y_ldc Tryz.underlying22 rfl rfl (((S1.blk 0 rfl).cell _).trans (by rfl))) rfl ?_)))); refine DL_y rfl (y_len Tryz.underlying22 rfl) rfl (DL_y rfl (y_move rfl) rfl (DL_y rfl (y_nilp rfl) rfl (DL_y rfl (y_fieldA 1 Tryz.underlying218 rfl sz3 rfl rfl rfl) rfl (DL_y rfl (y_ldc Tryz.underlying3 rfl rfl (((S1.blk 0 rfl).cell _).trans (by rfl))) rfl ?_)))); refine DL_y rfl (y_sub rfl rfl (i64w (by omega))) rfl (DL_y rfl (y_gtr rfl rfl) rfl (DL_nil (hK3 _ _ ?_))); refine T_cond rfl (fun h17 => ?_) (fun h17 => ?_)
 ·
  have hk : ¬ k ≤ l.length - p := by omega
  refine T_seq fun K4 hK4 => T_region (L_y (y_move rfl) rfl (L_y (y_nilp rfl) rfl (L_y (y_fieldA 2 Tryz.underlying218 rfl sz24 rfl rfl rfl) rfl (L_o (o_st1 S1 0 rfl rfl rfl rfl sz24 (by simp; done) fun w2 S2 => ?_))))); refine L_nil (hK4 _ _ (T_seq fun K5 hK5 => T_region (L_y (y_assign rfl) rfl (L_nil (hK5 _ _ (T_ret ?_)))))); repeat (first | with_reducible refine up_then ?_ | with_reducible refine up_in ?_)
  refine ret1 rfl rfl ?_; first | exact ⟨_, rfl, none, 0, (by rw [tkL, if_neg hk]; rfl), (by rw [tkL, if_neg hk]; exact Rs.nil _ _), Rdd.of (S2.turned2 0 1 rfl rfl) (by rw [tkP, tkE, if_neg hk, if_neg hk]; rfl)⟩ | exact ⟨_, rfl, cutA A c p 1, c - p, (by rw [e2]), (by rw [e2, e1]; exact (S2.row 1 rfl).cutb (by omega) (by omega)), Rdd.of (S2.turned2 0 1 rfl rfl) (by rw [tkP, tkE, if_pos hk, if_pos hk]; rfl)⟩
 ·
  have hk : k ≤ l.length - p := by omega
  have e1 : (tkL l p k) = (l.drop p).take (p + k - p) := by rw [tkL, if_pos hk]; congr 1; omega
  have e2 : (tkL l p k).length = p + k - p := by rw [e1, List.length_take, List.length_drop]; omega
  refine T_skip (hK2 _ _ (T_seq fun K6 hK6 => T_drawnL [(0, true), (1, true), (2, true), (3, true), (4, true), (5, true), (6, true), (7, true), (8, true), (9, true), (10, true), (11, true), (12, true), (13, true), (14, true), (15, true)] hmix (by kernel_rfl) fun w3 l3 => ?_)); have S3 := S1.like l3; refine DL_y rfl (y_move rfl) rfl (DL_y rfl (y_nilp rfl) rfl (DL_y rfl (y_fieldA 0 Tryz.underlying218 rfl sz22 rfl rfl rfl) rfl (DL_y rfl (y_ldc Tryz.underlying22 rfl rfl (((S3.blk 0 rfl).cell _).trans (by rfl))) rfl ?_))); refine DL_y rfl (y_move rfl) rfl (DL_y rfl (y_nilp rfl) rfl (DL_y rfl (y_fieldA 1 Tryz.underlying218 rfl sz3 rfl rfl rfl) rfl (DL_y rfl (y_ldc Tryz.underlying3 rfl rfl (((S3.blk 0 rfl).cell _).trans (by rfl))) rfl ?_))); refine DL_y rfl (y_move rfl) rfl (DL_y rfl (y_nilp rfl) rfl (DL_y rfl (y_fieldA 1 Tryz.underlying218 rfl sz3 rfl rfl rfl) rfl (DL_y rfl (y_ldc Tryz.underlying3 rfl rfl (((S3.blk 0 rfl).cell _).trans (by rfl))) rfl ?_))); refine DL_y rfl (y_move rfl) rfl (DL_y rfl (y_add rfl rfl (i64w (by omega))) rfl (DL_y rfl (y_slice Tryz.underlying22 sz5 rfl rfl rfl inferInstance inferInstance (by omega) (by omega)) rfl (DL_y rfl (y_assign rfl) rfl (DL_nil (hK6 _ _ (T_seq fun K7 hK7 => T_region (L_y (y_move rfl) rfl (L_y (y_nilp rfl) rfl ?_)))))))); refine L_y (y_fieldA 1 Tryz.underlying218 rfl sz3 rfl rfl rfl) rfl (L_y (y_ldc Tryz.underlying3 rfl rfl (((S3.blk 0 rfl).cell _).trans (by rfl))) rfl ?_); refine L_y (y_move rfl) rfl (L_y (y_add rfl rfl (i64w (by omega))) rfl (L_y (y_nilp rfl) rfl (L_y (y_fieldA 1 Tryz.underlying218 rfl sz3 rfl rfl rfl) rfl (L_o (o_st1 S3 0 rfl rfl rfl rfl sz3 (by simp; done) fun w4 S4 => ?_))))); refine L_nil (hK7 _ _ (T_seq fun K8 hK8 => T_region (L_y (y_move rfl) rfl (L_y (y_assign rfl) rfl (L_nil (hK8 _ _ (T_ret ?_))))))); repeat (first | with_reducible refine up_then ?_ | with_reducible refine up_in ?_)
  refine ret1 rfl rfl ?_; first | exact ⟨_, rfl, none, 0, (by rw [tkL, if_neg hk]; rfl), (by rw [tkL, if_neg hk]; exact Rs.nil _ _), Rdd.of (S4.turned2 0 1 rfl rfl) (by rw [tkP, tkE, if_neg hk, if_neg hk]; rfl)⟩ | exact ⟨_, rfl, cutA A c p 1, c - p, (by rw [e2]), (by rw [e2, e1]; exact (S4.row 1 rfl).cutb (by omega) (by omega)), Rdd.of (S4.turned2 0 1 rfl rfl) (by rw [tkP, tkE, if_pos hk, if_pos hk]; rfl)⟩
theorem rback (g : Nat) (A : Option Addr) (n c : Nat) (l : List UInt8) (p q : Nat) (p0 : Nat) (w0 : World) (hw : (rdr g A n c l p q).holds w0) :
    DCalls Tryz.prog 167 #[.pointer (some ⟨g, 0, none⟩), .int .i64 (p0 : Int)] w0 fun e w' => ∃ u, e = .returned u ∧ Turned w0 w' (rdr g A n c l p q) (rdr g A n c l (if q ≠ 0 then p0 else p) q) := by
 refine enterd1 (env := [(0, .pointer (some ⟨g, 0, none⟩)), (1, .int .i64 (p0 : Int))]) [.pointer (some ⟨g, 0, none⟩), .int .i64 (p0 : Int)] Tryz.func167 rfl Tryz.ntmps167 rfl rfl ?_; have hnl := rdr_len hw; have hnc := ownsRow_cap hw.2; have S0 := St.borrow2 (blk g 218 #[.slice A n c, .int .i64 (p : Int), .int .i64 (q : Int)]) (row 5 1 A n c (bL l)) hw.1 hw.2 (rdr_lt hw) (rdr_apart hw); refine T_seq fun K1 hK1 => T_region (L_y (y_move rfl) rfl (L_y (y_nilp rfl) rfl (L_y (y_fieldA 2 Tryz.underlying218 rfl sz24 rfl rfl rfl) rfl (L_y (y_ldc Tryz.underlying24 rfl rfl (((S0.blk 0 rfl).cell _).trans (by rfl))) rfl ?_)))); refine L_y (y_neq rfl rfl) rfl (L_nil (hK1 _ _ ?_)); refine T_cond rfl (fun h8 => ?_) (fun h8 => ?_)
 ·
  refine T_region (L_y (y_move rfl) rfl (L_y (y_move rfl) rfl (L_y (y_nilp rfl) rfl (L_y (y_fieldA 1 Tryz.underlying218 rfl sz3 rfl rfl rfl) rfl (L_o (o_st1 S0 0 rfl rfl rfl rfl sz3 (by simp; done) fun w1 S1 => ?_)))))); refine L_nil ?_; first | refine end0 (fn := Tryz.f167) rfl ?_ | (simp only [thenQ, inB, if_true]; refine end0 (fn := Tryz.f167) rfl ?_)
  exact ⟨_, rfl, Rdd.of (S1.turned2 0 1 rfl rfl) (by first | (rw [if_pos (by omega)]; rfl) | (rw [if_neg (by omega)]))⟩
 ·
  refine T_skip ?_; first | refine end0 (fn := Tryz.f167) rfl ?_ | (simp only [thenQ, inB, if_true]; refine end0 (fn := Tryz.f167) rfl ?_)
  exact ⟨_, rfl, Rdd.of (S0.turned2 0 1 rfl rfl) (by first | (rw [if_pos (by omega)]; rfl) | (rw [if_neg (by omega)]))⟩
theorem rfail (g : Nat) (A : Option Addr) (n c : Nat) (l : List UInt8) (p q : Nat) (p0 q0 : Nat) (w0 : World) (hw : (rdr g A n c l p q).holds w0) (hp : p ≤ l.length) :
    Calls Tryz.prog 138 #[.pointer (some ⟨g, 0, none⟩), .int .i64 (p0 : Int), .int .i64 (q0 : Int)] w0 fun e w' => ∃ u, e = .returned u ∧ Turned w0 w' (rdr g A n c l p q) (rdr g A n c l p0 q0) := by
 refine enter1 (env := [(0, .pointer (some ⟨g, 0, none⟩)), (1, .int .i64 (p0 : Int)), (2, .int .i64 (q0 : Int))]) [.pointer (some ⟨g, 0, none⟩), .int .i64 (p0 : Int), .int .i64 (q0 : Int)] Tryz.func138 rfl Tryz.ntmps138 rfl rfl ?_; have hnl := rdr_len hw; have hnc := ownsRow_cap hw.2; have S0 := St.borrow2 (blk g 218 #[.slice A n c, .int .i64 (p : Int), .int .i64 (q : Int)]) (row 5 1 A n c (bL l)) hw.1 hw.2 (rdr_lt hw) (rdr_apart hw); refine T_seq fun K1 hK1 => T_region (L_y (y_move rfl) rfl (L_y (y_move rfl) rfl (L_y (y_nilp rfl) rfl (L_y (y_fieldA 1 Tryz.underlying218 rfl sz3 rfl rfl rfl) rfl (L_o (o_st1 S0 0 rfl rfl rfl rfl sz3 (by simp; done) fun w1 S1 => ?_)))))); refine L_nil (hK1 _ _ (T_region (L_y (y_move rfl) rfl (L_y (y_move rfl) rfl (L_y (y_nilp rfl) rfl (L_y (y_fieldA 2 Tryz.underlying218 rfl sz24 rfl rfl rfl) rfl (L_o (o_st1 S1 0 rfl rfl rfl rfl sz24 (by simp; done) fun w2 S2 => ?_)))))))); refine L_nil ?_; first | refine end0 (fn := Tryz.f138) rfl ?_ | (simp only [thenQ, inB, if_true]; refine end0 (fn := Tryz.f138) rfl ?_)
 exact ⟨_, rfl, Rdd.of (S2.turned2 0 1 rfl rfl) rfl⟩
theorem rnew (B : Option Addr) (m d : Nat) (l : List UInt8) (w0 : World) (hb : Rs w0 1 B m d (bL l)) (hm : m ≤ 70368744177664) :
    Calls Tryz.prog 96 #[.slice B m d] w0 fun e w' => ∃ u, e = .returned u ∧ Like w0 w' ∧ ∃ g A c, u = .pointer (some ⟨g, 0, none⟩) ∧ (rdr g A m c l 0 0).holds w' ∧ ∀ i, (rdr g A m c l 0 0).dom i → w0.heap.size ≤ i ∧ i < w'.heap.size := by
 refine enter1 (env := [(0, .slice B m d)]) [.slice B m d] Tryz.func96 rfl Tryz.ntmps96 rfl rfl ?_; have S0 := St.start w0 noM; refine T_seq fun K1 hK1 => T_region (L_y (y_assign rfl) rfl (L_nil (hK1 _ _ (T_seq fun K2 hK2 => T_region (L_y (y_move rfl) rfl (L_o (o_app0 te22 S0 rfl rfl (S0.rd hb) (bL_one _) rfl (by omega) (by omega) fun A1 c1 w1 S1 => L_y (y_build rfl (show _ = some #[Value.slice A1 m c1, Value.int .i64 0, Value.int .i64 0] by kernel_rfl)) rfl ?_))))))); refine L_o (o_box rfl S1 rfl fun b2 w2 hb2 S2 => L_y (y_assign rfl) rfl (L_nil (hK2 _ _ (T_ret ?_)))); repeat (first | with_reducible refine up_then ?_ | with_reducible refine up_in ?_)
 refine ret1 rfl rfl ?_; exact ⟨_, rfl, S2.like0, _, _, _, rfl, ⟨S2.get 1 rfl, S2.get 0 rfl⟩, fun i hi => by rcases hi with hi | hi; exact fresh_ S2 1 rfl i hi; exact fresh_ S2 0 rfl i hi⟩
end Go.Proofs.YtgaklngnfecdaaaGreat.Oct
namespace Go.Proofs.YtgaklngnfecdaaaGreat.Oct
open Go.RowKit Zk Zx
def be (l : List UInt8) : Nat := l.foldl (fun n c => n * 256 + c.toNat) 0
def rwL (l : List UInt8) (p q k : Nat) : List UInt8 := if q = 0 then tkL l p k else []
def rwP (l : List UInt8) (p q k : Nat) : Nat := if q = 0 then tkP l p k else p
def rwE (l : List UInt8) (p q k : Nat) : Nat := if q = 0 then tkE l p k q else q
theorem tkL_ok {l : List UInt8} {p k : Nat} (h : k ≤ l.length - p) : (tkL l p k).length = k := by rw [tkL, if_pos h, List.length_take, List.length_drop]; omega
theorem tkE_ok {l : List UInt8} {p k q : Nat} (h : k ≤ l.length - p) : tkE l p k q = q := by rw [tkE, if_pos h]
theorem tkE_no {l : List UInt8} {p k q : Nat} (h : ¬ k ≤ l.length - p) : tkE l p k q = 10 := by rw [tkE, if_neg h]
theorem tkL_no {l : List UInt8} {p k : Nat} (h : ¬ k ≤ l.length - p) : tkL l p k = [] := by rw [tkL, if_neg h]
theorem tkE_case {l : List UInt8} {p k : Nat} (h : ¬ ((tkE l p k 0 : Nat) : Int) ≠ 0) : k ≤ l.length - p := by
  by_cases hk : k ≤ l.length - p
  · exact hk
  · rw [tkE_no hk] at h
    omega
theorem tkE_caseN {l : List UInt8} {p k : Nat} (h : ((tkE l p k 0 : Nat) : Int) ≠ 0) : ¬ k ≤ l.length - p := fun hk => by
  rw [tkE_ok hk] at h
  omega
theorem tk_one {l : List UInt8} {p : Nat} (h : 1 ≤ l.length - p) : ∃ x, l[p]? = some x ∧ tkL l p 1 = [x] ∧ l.drop p = x :: l.drop (p + 1) := by
  have hp : p < l.length := by omega
  refine ⟨l[p], List.getElem?_eq_getElem hp, ?_, List.drop_eq_getElem_cons hp⟩
  rw [tkL, if_pos h, List.drop_eq_getElem_cons hp, List.take_succ_cons, List.take_zero]
theorem be_snoc (l : List UInt8) (c : UInt8) : be (l ++ [c]) = be l * 256 + c.toNat := by simp [be, List.foldl_append]
theorem be_from : ∀ (l : List UInt8) (a : Nat), l.foldl (fun n c => n * 256 + c.toNat) a < (a + 1) * 256 ^ l.length
  | [], a => by simp
  | c :: l, a => by
    have h := be_from l (a * 256 + c.toNat)
    have h2 : (a * 256 + c.toNat + 1) * 256 ^ l.length ≤ (a + 1) * 256 * 256 ^ l.length := Nat.mul_le_mul_right _ (by have := c.toNat_lt; omega)
    rw [List.foldl_cons, List.length_cons, Nat.pow_succ, Nat.mul_comm (256 ^ l.length), ← Nat.mul_assoc]
    omega
theorem be_lt (l : List UInt8) : be l < 256 ^ l.length := by simpa [be] using be_from l 0
theorem be_take {l : List UInt8} {k : Nat} {c : UInt8} (h : l[k]? = some c) : be (l.take (k + 1)) = be (l.take k) * 256 + c.toNat := by
  rw [List.take_add_one, h]
  exact be_snoc _ _
def numF : List UInt8 → Nat → Nat → Nat × Nat × Nat
  | [], k, _ => (0, k, 10)
  | c :: r, k, a => if (k = 9 ∧ 1 < c.toNat) ∨ (0 < k ∧ c.toNat = 0) then (0, k + 1, 12) else if c.toNat < 128 then (a + c.toNat % 128 * 128 ^ k, k + 1, 0) else numF r (k + 1) (a + c.toNat % 128 * 128 ^ k)
theorem and127 : ∀ m : Fin 256, bits .and .u8 (m.val : Int) 127 = ((m.val % 128 : Nat) : Int) := by decide
theorem andX (x : UInt8) : bits .and .u8 (x.toNat : Int) 127 = ((x.toNat % 128 : Nat) : Int) := and127 ⟨x.toNat, x.toNat_lt⟩
theorem pow7 (k : Nat) : 128 ^ k = 2 ^ (7 * k) := by rw [show (128 : Nat) = 2 ^ 7 from rfl, ← Nat.pow_mul]
theorem pow_eight {k : Nat} (h : k ≤ 8) : 128 ^ k ≤ 72057594037927936 := by
  have := Nat.pow_le_pow_right (show 0 < 128 by decide) h
  exact this
theorem num_lt {k a x : Nat} (hk : k ≤ 9) (ha : a < 128 ^ k) (hx : x ≤ 255) (h9 : k = 9 → x ≤ 1) : x % 128 * 128 ^ k ≤ 18446744073709551615 ∧ a + x % 128 * 128 ^ k ≤ 18446744073709551615 := by
  by_cases h : k = 9
  · have h1 := h9 h
    subst h
    have h2 : x % 128 * 128 ^ 9 ≤ 1 * 128 ^ 9 := Nat.mul_le_mul_right _ (by omega)
    have h3 : (128 : Nat) ^ 9 = 9223372036854775808 := rfl
    omega
  · have h1 := pow_eight (k := k) (by omega)
    have h2 : x % 128 * 128 ^ k ≤ 127 * 128 ^ k := Nat.mul_le_mul_right _ (by omega)
    omega
theorem num_next {k a x : Nat} (ha : a < 128 ^ k) : a + x % 128 * 128 ^ k < 128 ^ (k + 1) := by
  have h2 : x % 128 * 128 ^ k ≤ 127 * 128 ^ k := Nat.mul_le_mul_right _ (by omega)
  rw [Nat.pow_succ]
  omega
theorem shl7 (x k : Nat) (hk : k ≤ 9) (h : x * 128 ^ k ≤ 18446744073709551615) : IntKind.u64.wrap ((x : Int) * 2 ^ (min ((7 : Int) * (k : Int)).toNat IntKind.u64.bits)) = ((x * 128 ^ k : Nat) : Int) := by
  have e : min ((7 : Int) * (k : Int)).toNat IntKind.u64.bits = 7 * k := by simp only [IntKind.bits]; omega
  rw [e, show (x : Int) * 2 ^ (7 * k) = ((x * 128 ^ k : Nat) : Int) by rw [pow7]; push_cast; rfl, IntKind.wrap_u64]
  omega
theorem or64 (a b : Nat) (ha : a < 18446744073709551616) (hb : b < 18446744073709551616) : bits .or .u64 (a : Int) (b : Int) = ((a ||| b : Nat) : Int) := by
  have h : a ||| b < 2 ^ 64 := Nat.or_lt_two_pow ha hb
  show IntKind.u64.wrap ((((BitVec.ofInt 64 (a : Int)) ||| (BitVec.ofInt 64 (b : Int)) : BitVec 64).toNat : Nat) : Int) = _
  rw [BitVec.ofInt_natCast, BitVec.ofInt_natCast, BitVec.toNat_or, BitVec.toNat_ofNat, BitVec.toNat_ofNat]
  rw [Nat.mod_eq_of_lt (by omega), Nat.mod_eq_of_lt (by omega), IntKind.wrap_u64]
  omega
theorem or7 (a y k : Nat) (ha : a < 128 ^ k) (h : a + y * 128 ^ k ≤ 18446744073709551615) : bits .or .u64 (a : Int) ((y * 128 ^ k : Nat) : Int) = ((a + y * 128 ^ k : Nat) : Int) := by
  rw [or64 _ _ (by omega) (by omega), Nat.or_comm, pow7, Nat.mul_comm, ← Nat.two_pow_add_eq_or_of_lt (by rw [← pow7]; exact ha), Nat.add_comm]
theorem Rdd.turned {w w' : World} {g n c p q p' q' : Nat} {A : Option Addr} {l : List UInt8} (h : Turned w w' (rdr g A n c l p q) (rdr g A n c l p' q')) {p2 q2 : Nat} (hp : p' = p2) (hq : q' = q2) : Turned w w' (rdr g A n c l p q) (rdr g A n c l p2 q2) := by
  subst hp
  subst hq
  exact h
theorem tk_le (l : List UInt8) (p k : Nat) : (tkL l p k).length ≤ k := by unfold tkL; split <;> simp <;> omega
theorem be_bound {t : List UInt8} {k j : Nat} (hk : k < t.length) (ht : t.length ≤ j + 1) : be (t.take k) < 256 ^ j := by
  have h1 := be_lt (t.take k)
  rw [List.length_take, Nat.min_eq_left (by omega)] at h1
  exact Nat.lt_of_lt_of_le h1 (Nat.pow_le_pow_right (by decide) (by omega))
theorem or256 (a : Nat) (x : UInt8) : a * 256 ||| x.toNat = a * 256 + x.toNat := by
  rw [Nat.mul_comm, show (256 : Nat) = 2 ^ 8 from rfl, Nat.two_pow_add_eq_or_of_lt x.toNat_lt]
theorem or32 (a b : Nat) (ha : a < 4294967296) (hb : b < 4294967296) : bits .or .u32 (a : Int) (b : Int) = ((a ||| b : Nat) : Int) := by
  have h : a ||| b < 2 ^ 32 := Nat.or_lt_two_pow ha hb
  show IntKind.u32.wrap ((((BitVec.ofInt 32 (a : Int)) ||| (BitVec.ofInt 32 (b : Int)) : BitVec 32).toNat : Nat) : Int) = _
  rw [BitVec.ofInt_natCast, BitVec.ofInt_natCast, BitVec.toNat_or, BitVec.toNat_ofNat, BitVec.toNat_ofNat]
  rw [Nat.mod_eq_of_lt (by omega), Nat.mod_eq_of_lt (by omega), IntKind.wrap_u32]
  omega
theorem shl8_32 (a : Nat) (h : a < 256 ^ 3) : IntKind.u32.wrap ((a : Int) * 2 ^ (min (8 : Int).toNat IntKind.u32.bits)) = ((a * 256 : Nat) : Int) := by
  rw [show (2 : Int) ^ (min (8 : Int).toNat IntKind.u32.bits) = 256 by decide, IntKind.wrap_u32]
  omega
theorem orbe32 (a : Nat) (x : UInt8) (h : a < 256 ^ 3) : bits .or .u32 ((a * 256 : Nat) : Int) (x.toNat : Int) = ((a * 256 + x.toNat : Nat) : Int) := by
  rw [or32 _ _ (by omega) (by have := x.toNat_lt; omega), or256]
theorem bL_getX {l : List UInt8} {k : Nat} {x : UInt8} (h : l[k]? = some x) : (bL l)[k]? = some (Value.int .u8 (x.toNat : Int)) := bL_get l k x h
theorem split1 {w0 w : World} {M : Nat → Prop} {r s : Res} (S : St w0 M [both r s] w) (hap : ∀ i, r.dom i → ¬ s.dom i) : St w0 M [r, s] w :=
  ⟨S.os, S.tape, S.output, S.size, S.old, fun q hq => by
    have h1 := S.res _ List.mem_cons_self
    rcases List.mem_cons.1 hq with rfl | hq
    · exact ⟨h1.1.1, fun i hi => h1.2 i (.inl hi)⟩
    · obtain rfl := List.mem_singleton.1 hq
      exact ⟨h1.1.2, fun i hi => h1.2 i (.inr hi)⟩, List.pairwise_cons.2 ⟨fun s' hs' => by obtain rfl := List.mem_singleton.1 hs'; exact hap, List.pairwise_singleton _ _⟩⟩
theorem Rdd.end2 {w0 w : World} {g n c p q p' q' : Nat} {A : Option Addr} {l : List UInt8} {X : Array Value} (S : St w0 (rdr g A n c l p q).dom [blk g 218 X, row 5 1 A n c (bL l)] w) (hX : X = #[.slice A n c, .int .i64 (p' : Int), .int .i64 (q' : Int)]) : Turned w0 w (rdr g A n c l p q) (rdr g A n c l p' q') :=
  Rdd.of (St.turned2 (r := blk g 218 #[.slice A n c, .int .i64 (p : Int), .int .i64 (q : Int)]) (s := row 5 1 A n c (bL l)) S 0 1 rfl rfl) hX
theorem rnumber (g : Nat) (A : Option Addr) (n c : Nat) (l : List UInt8) (p : Nat) (w0 : World) (hw : (rdr g A n c l p 0).holds w0) (hp : p ≤ l.length) (hn62 : n ≤ 4611686018427387904) :
    Calls Tryz.prog 168 #[.pointer (some ⟨g, 0, none⟩)] w0 fun e w' => ∃ u, e = .returned u ∧ u = .int .u64 ((numF (l.drop p) 0 0).1 : Int) ∧ Turned w0 w' (rdr g A n c l p 0) (rdr g A n c l (p + (numF (l.drop p) 0 0).2.1) (numF (l.drop p) 0 0).2.2) := by
 refine enter1 (env := [(0, .pointer (some ⟨g, 0, none⟩))]) [.pointer (some ⟨g, 0, none⟩)] Tryz.func168 rfl Tryz.ntmps168 rfl rfl ?_; have hnl := rdr_len hw; have hnc := ownsRow_cap hw.2; have S0 := St.borrow1 (rdr g A n c l p 0) hw (rdr_lt hw); refine T_seq fun K1 hK1 => T_region (L_y (y_assign rfl) rfl (L_nil (hK1 _ _ (T_seq fun K2 hK2 => T_region (L_y (y_assign rfl) rfl (L_nil (hK2 _ _ ?_))))))); refine T_seq fun K3 hK3 => T_region (L_y (y_assign rfl) rfl (L_nil (hK3 _ _ (T_block ?_)))); refine T_loop2 [(0, _)] (fun (k : Nat) (a : Nat) => [(3, .int .u64 (a : Int)), (4, .int .i64 (k : Int))]) (fun (k : Nat) (a : Nat) => 10 - k) (fun (k : Nat) (a : Nat) (w : World) => ((k ≤ 9 ∧ p + k ≤ l.length ∧ a < 128 ^ k) ∧ numF (l.drop (p + k)) k a = numF (l.drop p) 0 0) ∧ St w0 (rdr g A n c l p 0).dom [rdr g A n c l (p + k) 0] w) 0 0 (Sub.cons rfl (by first | rfl | exact congrArg (Value.int _) (by omega)) (Sub.cons rfl (by first | rfl | exact congrArg (Value.int _) (by omega)) (Sub.nil _))) (Sub.cons rfl rfl (Sub.nil _)) ?_ ?_
 ·
  exact ⟨⟨⟨by omega, by omega, by decide⟩, rfl⟩, S0⟩
 ·
  intro k a w1 hrel; obtain ⟨⟨⟨hk9, hpk, ha⟩, hN⟩, S1⟩ := hrel; refine T_seq fun K4 hK4 => T_block (T_seq fun K5 hK5 => T_region (L_y (y_move rfl) rfl (L_o (o_call Tryz.func139 rfl rfl (rtake g A n c l (p + k) _ 1 w1 (S1.get 0 rfl) (by omega) (by omega) hn62) rfl rfl ?_)))); rintro e2 w2 ⟨v2, rfl, B2, d2, rfl, R2, T2⟩; refine ⟨_, rfl, ?_⟩; have S2 := S1.turn 0 rfl T2; have RR := R2; refine L_y (y_assign rfl) rfl (L_nil (hK5 _ _ (T_seq fun K6 hK6 => T_seq fun K7 hK7 => T_region (L_y (y_move rfl) rfl (L_y (y_nilp rfl) rfl (L_y (y_fieldA 2 Tryz.underlying218 rfl sz24 rfl rfl rfl) rfl (L_y (y_ldc Tryz.underlying24 rfl rfl (((S2.get 0 rfl).1.cell _).trans (by rfl))) rfl ?_))))))); refine L_y (y_neq rfl rfl) rfl (L_nil (hK7 _ _ ?_)); refine T_cond rfl (fun h15 => ?_) (fun h15 => ?_)
  ·
   have hk1 := tkE_caseN h15; have hN2 : numF (l.drop p) 0 0 = (0, k, 10) := by rw [← hN, List.drop_eq_nil_of_le (by omega)]; rfl
   refine T_seq fun K8 hK8 => T_region (L_y (y_assign rfl) rfl (L_nil (hK8 _ _ (T_ret ?_)))); repeat (first | with_reducible refine up_then ?_ | with_reducible refine up_in ?_)
   refine ret1 rfl rfl ?_; first | exact ⟨_, rfl, by rw [hN2]; rfl, Rdd.turned (S2.turned1 0 rfl) (by rw [hN2, tkP, if_neg hk1]) (by rw [hN2, tkE_no hk1])⟩ | exact ⟨_, rfl, by rw [hN2], Rdd.turned (S2.turned1 0 rfl) (by rw [hN2]) (by rw [hN2])⟩ | exact ⟨_, rfl, by rw [hN2]; rfl, by rw [hN2]; exact Rdd.end2 S2 rfl⟩
  ·
   have hk1 := tkE_case h15; obtain ⟨x, hx, htk, hdr⟩ := tk_one hk1; rw [show bL (tkL l (p + k) 1) = bL [x] from congrArg bL htk] at RR; rw [show tkP l (p + k) 1 = p + (k + 1) by rw [tkP, if_pos hk1]; omega, tkE_ok hk1] at S2; have hxl := x.toNat_lt; refine T_skip (hK6 _ _ (T_seq fun K9 hK9 => T_region (L_y (y_move rfl) rfl (L_y (y_idx Tryz.underlying22 sz5 rfl rfl (RR) inferInstance (by rw [tkL_ok hk1]; decide)) rfl ?_)))); refine L_y (y_ldr Tryz.underlying5 rfl rfl RR (show ([bV x])[0]? = some (Value.int .u8 (x.toNat : Int)) from rfl)) rfl (L_y (y_assign rfl) rfl (L_nil (hK9 _ _ (T_seq fun K10 hK10 => T_seq fun K11 hK11 => T_region (L_y (y_move rfl) rfl (L_y (y_eql rfl rfl) rfl (L_y (y_move rfl) rfl ?_))))))); refine L_split 21 rfl (fun h21 => ?_) (fun h21 => ?_)
   ·
    refine L_gyes rfl rfl (L_y (y_move rfl) rfl (L_gyes rfl rfl (L_y (y_gtr rfl rfl) rfl (L_y ((by first | exact y_pickT rfl rfl | exact y_pickF rfl rfl)) rfl ?_)))); refine L_y (y_move rfl) rfl ?_; refine L_split 25 rfl (fun h25 => ?_) (fun h25 => ?_)
    ·
     refine L_gno rfl rfl rfl (L_gno rfl rfl rfl (L_gno rfl rfl rfl (L_gnu rfl rfl rfl (L_gnu rfl rfl rfl (L_gno rfl rfl rfl (L_y ((by first | exact y_pickT rfl rfl | exact y_pickF rfl rfl)) rfl ?_)))))); refine L_nil (hK11 _ _ (T_true rfl (T_seq fun K12 hK12 => ?_))); have hF : ((k = 9 ∧ 1 < x.toNat) ∨ (0 < k ∧ x.toNat = 0)) := by omega
     have hN2 : numF (l.drop p) 0 0 = (0, k + 1, 12) := by rw [← hN, hdr, numF, if_pos hF]
     refine T_region (L_y (y_move rfl) rfl (L_y (y_nilp rfl) rfl ?_)); have S5 := split1 S2 (rdr_apart (S2.get 0 rfl)); refine L_y (y_fieldA 2 Tryz.underlying218 rfl sz24 rfl rfl rfl) rfl (L_o (o_st1 S5 0 rfl rfl rfl rfl sz24 (by simp; done) fun w6 S6 => ?_)); refine L_nil (hK12 _ _ (T_seq fun K13 hK13 => T_region (L_y (y_assign rfl) rfl (L_nil (hK13 _ _ (T_ret ?_)))))); repeat (first | with_reducible refine up_then ?_ | with_reducible refine up_in ?_)
     refine ret1 rfl rfl ?_; first | exact ⟨_, rfl, by rw [hN2]; rfl, Rdd.turned (S6.turned1 0 rfl) (by rw [hN2, tkP, if_neg hk1]) (by rw [hN2, tkE_no hk1])⟩ | exact ⟨_, rfl, by rw [hN2], Rdd.turned (S6.turned1 0 rfl) (by rw [hN2]) (by rw [hN2])⟩ | exact ⟨_, rfl, by rw [hN2]; rfl, by rw [hN2]; exact Rdd.end2 S6 rfl⟩
    ·
     refine L_gyes rfl rfl (L_y (y_move rfl) rfl (L_gyes rfl rfl (L_y (y_gtr rfl rfl) rfl (L_gyes rfl rfl (L_y (y_move rfl) rfl ?_))))); refine L_split 28 rfl (fun h28 => ?_) (fun h28 => ?_)
     ·
      refine L_gyes rfl rfl (L_y (y_move rfl) rfl (L_gyes rfl rfl (L_y (y_eql rfl rfl) rfl (L_gyes rfl rfl (L_y ((by first | exact y_pickT rfl rfl | exact y_pickF rfl rfl)) rfl ?_))))); refine L_y ((by first | exact y_pickT rfl rfl | exact y_pickF rfl rfl)) rfl ?_; refine L_nil (hK11 _ _ ?_); refine T_cond rfl (fun h32 => ?_) (fun h32 => ?_)
      ·
       refine T_seq fun K14 hK14 => ?_; have hF : ((k = 9 ∧ 1 < x.toNat) ∨ (0 < k ∧ x.toNat = 0)) := by omega
       have hN2 : numF (l.drop p) 0 0 = (0, k + 1, 12) := by rw [← hN, hdr, numF, if_pos hF]
       refine T_region (L_y (y_move rfl) rfl (L_y (y_nilp rfl) rfl ?_)); have S8 := split1 S2 (rdr_apart (S2.get 0 rfl)); refine L_y (y_fieldA 2 Tryz.underlying218 rfl sz24 rfl rfl rfl) rfl (L_o (o_st1 S8 0 rfl rfl rfl rfl sz24 (by simp; done) fun w9 S9 => ?_)); refine L_nil (hK14 _ _ (T_seq fun K15 hK15 => T_region (L_y (y_assign rfl) rfl (L_nil (hK15 _ _ (T_ret ?_)))))); repeat (first | with_reducible refine up_then ?_ | with_reducible refine up_in ?_)
       refine ret1 rfl rfl ?_; first | exact ⟨_, rfl, by rw [hN2]; rfl, Rdd.turned (S9.turned1 0 rfl) (by rw [hN2, tkP, if_neg hk1]) (by rw [hN2, tkE_no hk1])⟩ | exact ⟨_, rfl, by rw [hN2], Rdd.turned (S9.turned1 0 rfl) (by rw [hN2]) (by rw [hN2])⟩ | exact ⟨_, rfl, by rw [hN2]; rfl, by rw [hN2]; exact Rdd.end2 S9 rfl⟩
      ·
       refine T_skip (hK10 _ _ (T_seq fun K16 hK16 => ?_)); have hF : ¬ ((k = 9 ∧ 1 < x.toNat) ∨ (0 < k ∧ x.toNat = 0)) := by omega
       have hnm := num_lt hk9 ha (x := x.toNat) (by omega) (fun h => by omega); refine T_region (L_y (y_move rfl) rfl (L_y (y_move rfl) rfl (L_y (y_bits rfl rfl rfl (andX x)) rfl (L_y (y_conv is5 Tryz.underlying102 rfl (u64w (by omega))) rfl (L_y (y_move rfl) rfl (L_y (y_mul rfl rfl (i64w (by omega))) rfl (L_y (y_conv is3 Tryz.underlying68 rfl (u64w (by omega))) rfl (L_y (y_shl rfl rfl (by omega) (shl7 _ k hk9 hnm.1)) rfl (L_y (y_bits rfl rfl rfl (or7 a _ k ha hnm.2)) rfl ?_))))))))); refine L_y (y_assign rfl) rfl (L_nil (hK16 _ _ (T_seq fun K17 hK17 => T_region (L_y (y_move rfl) rfl (L_y (y_lss rfl rfl) rfl (L_nil (hK17 _ _ ?_))))))); refine T_cond rfl (fun h46 => ?_) (fun h46 => ?_)
       ·
        have hN2 : numF (l.drop p) 0 0 = (a + x.toNat % 128 * 128 ^ k, k + 1, 0) := by rw [← hN, hdr, numF, if_neg hF, if_pos (by omega)]
        refine T_seq fun K18 hK18 => T_region (L_y (y_move rfl) rfl (L_y (y_assign rfl) rfl (L_nil (hK18 _ _ (T_ret ?_))))); repeat (first | with_reducible refine up_then ?_ | with_reducible refine up_in ?_)
        refine ret1 rfl rfl ?_; first | exact ⟨_, rfl, by rw [hN2]; rfl, Rdd.turned (S2.turned1 0 rfl) (by rw [hN2, tkP, if_neg hk1]) (by rw [hN2, tkE_no hk1])⟩ | exact ⟨_, rfl, by rw [hN2], Rdd.turned (S2.turned1 0 rfl) (by rw [hN2]) (by rw [hN2])⟩ | exact ⟨_, rfl, by rw [hN2]; rfl, by rw [hN2]; exact Rdd.end2 S2 rfl⟩
       ·
        refine T_skip (hK4 _ _ (T_region (L_y (y_move rfl) rfl (L_y (y_add rfl rfl (i64w (by omega))) rfl (L_y (y_assign rfl) rfl (L_nil (⟨k + 1, a + x.toNat % 128 * 128 ^ k, by omega, ⟨⟨⟨by omega, by omega, num_next ha⟩, by rw [← hN, hdr, numF, if_neg hF, if_neg (by omega)]; rfl⟩, S2⟩, ?_⟩))))))); exact (Sub.cons rfl (by first | rfl | exact congrArg (Value.int _) (by omega)) (Sub.cons rfl (by first | rfl | exact congrArg (Value.int _) (by omega)) (Sub.cons rfl rfl (Sub.nil _))))
     ·
      refine L_gno rfl rfl rfl (L_gno rfl rfl rfl (L_gyes rfl rfl (L_y ((by first | exact y_pickT rfl rfl | exact y_pickF rfl rfl)) rfl ?_))); refine L_y ((by first | exact y_pickT rfl rfl | exact y_pickF rfl rfl)) rfl ?_; refine L_nil (hK11 _ _ (T_false rfl (T_skip (hK10 _ _ (T_seq fun K19 hK19 => ?_))))); have hF : ¬ ((k = 9 ∧ 1 < x.toNat) ∨ (0 < k ∧ x.toNat = 0)) := by omega
      have hnm := num_lt hk9 ha (x := x.toNat) (by omega) (fun h => by omega); refine T_region (L_y (y_move rfl) rfl (L_y (y_move rfl) rfl (L_y (y_bits rfl rfl rfl (andX x)) rfl (L_y (y_conv is5 Tryz.underlying102 rfl (u64w (by omega))) rfl (L_y (y_move rfl) rfl (L_y (y_mul rfl rfl (i64w (by omega))) rfl (L_y (y_conv is3 Tryz.underlying68 rfl (u64w (by omega))) rfl (L_y (y_shl rfl rfl (by omega) (shl7 _ k hk9 hnm.1)) rfl (L_y (y_bits rfl rfl rfl (or7 a _ k ha hnm.2)) rfl ?_))))))))); refine L_y (y_assign rfl) rfl (L_nil (hK19 _ _ (T_seq fun K20 hK20 => T_region (L_y (y_move rfl) rfl (L_y (y_lss rfl rfl) rfl (L_nil (hK20 _ _ ?_))))))); refine T_cond rfl (fun h46 => ?_) (fun h46 => ?_)
      ·
       have hN2 : numF (l.drop p) 0 0 = (a + x.toNat % 128 * 128 ^ k, k + 1, 0) := by rw [← hN, hdr, numF, if_neg hF, if_pos (by omega)]
       refine T_seq fun K21 hK21 => T_region (L_y (y_move rfl) rfl (L_y (y_assign rfl) rfl (L_nil (hK21 _ _ (T_ret ?_))))); repeat (first | with_reducible refine up_then ?_ | with_reducible refine up_in ?_)
       refine ret1 rfl rfl ?_; first | exact ⟨_, rfl, by rw [hN2]; rfl, Rdd.turned (S2.turned1 0 rfl) (by rw [hN2, tkP, if_neg hk1]) (by rw [hN2, tkE_no hk1])⟩ | exact ⟨_, rfl, by rw [hN2], Rdd.turned (S2.turned1 0 rfl) (by rw [hN2]) (by rw [hN2])⟩ | exact ⟨_, rfl, by rw [hN2]; rfl, by rw [hN2]; exact Rdd.end2 S2 rfl⟩
      ·
       refine T_skip (hK4 _ _ (T_region (L_y (y_move rfl) rfl (L_y (y_add rfl rfl (i64w (by omega))) rfl (L_y (y_assign rfl) rfl (L_nil (⟨k + 1, a + x.toNat % 128 * 128 ^ k, by omega, ⟨⟨⟨by omega, by omega, num_next ha⟩, by rw [← hN, hdr, numF, if_neg hF, if_neg (by omega)]; rfl⟩, S2⟩, ?_⟩))))))); exact (Sub.cons rfl (by first | rfl | exact congrArg (Value.int _) (by omega)) (Sub.cons rfl (by first | rfl | exact congrArg (Value.int _) (by omega)) (Sub.cons rfl rfl (Sub.nil _))))
   ·
    refine L_gno rfl rfl rfl (L_gno rfl rfl rfl (L_y ((by first | exact y_pickT rfl rfl | exact y_pickF rfl rfl)) rfl ?_)); refine L_y (y_move rfl) rfl (L_gyes rfl rfl (L_y (y_move rfl) rfl (L_gyes rfl rfl (L_y (y_gtr rfl rfl) rfl (L_gyes rfl rfl (L_y (y_move rfl) rfl ?_)))))); refine L_split 28 rfl (fun h28 => ?_) (fun h28 => ?_)
    ·
     refine L_gyes rfl rfl (L_y (y_move rfl) rfl (L_gyes rfl rfl (L_y (y_eql rfl rfl) rfl (L_gyes rfl rfl (L_y ((by first | exact y_pickT rfl rfl | exact y_pickF rfl rfl)) rfl ?_))))); refine L_y ((by first | exact y_pickT rfl rfl | exact y_pickF rfl rfl)) rfl ?_; refine L_nil (hK11 _ _ ?_); refine T_cond rfl (fun h32 => ?_) (fun h32 => ?_)
     ·
      refine T_seq fun K22 hK22 => ?_; have hF : ((k = 9 ∧ 1 < x.toNat) ∨ (0 < k ∧ x.toNat = 0)) := by omega
      have hN2 : numF (l.drop p) 0 0 = (0, k + 1, 12) := by rw [← hN, hdr, numF, if_pos hF]
      refine T_region (L_y (y_move rfl) rfl (L_y (y_nilp rfl) rfl ?_)); have S11 := split1 S2 (rdr_apart (S2.get 0 rfl)); refine L_y (y_fieldA 2 Tryz.underlying218 rfl sz24 rfl rfl rfl) rfl (L_o (o_st1 S11 0 rfl rfl rfl rfl sz24 (by simp; done) fun w12 S12 => ?_)); refine L_nil (hK22 _ _ (T_seq fun K23 hK23 => T_region (L_y (y_assign rfl) rfl (L_nil (hK23 _ _ (T_ret ?_)))))); repeat (first | with_reducible refine up_then ?_ | with_reducible refine up_in ?_)
      refine ret1 rfl rfl ?_; first | exact ⟨_, rfl, by rw [hN2]; rfl, Rdd.turned (S12.turned1 0 rfl) (by rw [hN2, tkP, if_neg hk1]) (by rw [hN2, tkE_no hk1])⟩ | exact ⟨_, rfl, by rw [hN2], Rdd.turned (S12.turned1 0 rfl) (by rw [hN2]) (by rw [hN2])⟩ | exact ⟨_, rfl, by rw [hN2]; rfl, by rw [hN2]; exact Rdd.end2 S12 rfl⟩
     ·
      refine T_skip (hK10 _ _ (T_seq fun K24 hK24 => ?_)); have hF : ¬ ((k = 9 ∧ 1 < x.toNat) ∨ (0 < k ∧ x.toNat = 0)) := by omega
      have hnm := num_lt hk9 ha (x := x.toNat) (by omega) (fun h => by omega); refine T_region (L_y (y_move rfl) rfl (L_y (y_move rfl) rfl (L_y (y_bits rfl rfl rfl (andX x)) rfl (L_y (y_conv is5 Tryz.underlying102 rfl (u64w (by omega))) rfl (L_y (y_move rfl) rfl (L_y (y_mul rfl rfl (i64w (by omega))) rfl (L_y (y_conv is3 Tryz.underlying68 rfl (u64w (by omega))) rfl (L_y (y_shl rfl rfl (by omega) (shl7 _ k hk9 hnm.1)) rfl (L_y (y_bits rfl rfl rfl (or7 a _ k ha hnm.2)) rfl ?_))))))))); refine L_y (y_assign rfl) rfl (L_nil (hK24 _ _ (T_seq fun K25 hK25 => T_region (L_y (y_move rfl) rfl (L_y (y_lss rfl rfl) rfl (L_nil (hK25 _ _ ?_))))))); refine T_cond rfl (fun h46 => ?_) (fun h46 => ?_)
      ·
       have hN2 : numF (l.drop p) 0 0 = (a + x.toNat % 128 * 128 ^ k, k + 1, 0) := by rw [← hN, hdr, numF, if_neg hF, if_pos (by omega)]
       refine T_seq fun K26 hK26 => T_region (L_y (y_move rfl) rfl (L_y (y_assign rfl) rfl (L_nil (hK26 _ _ (T_ret ?_))))); repeat (first | with_reducible refine up_then ?_ | with_reducible refine up_in ?_)
       refine ret1 rfl rfl ?_; first | exact ⟨_, rfl, by rw [hN2]; rfl, Rdd.turned (S2.turned1 0 rfl) (by rw [hN2, tkP, if_neg hk1]) (by rw [hN2, tkE_no hk1])⟩ | exact ⟨_, rfl, by rw [hN2], Rdd.turned (S2.turned1 0 rfl) (by rw [hN2]) (by rw [hN2])⟩ | exact ⟨_, rfl, by rw [hN2]; rfl, by rw [hN2]; exact Rdd.end2 S2 rfl⟩
      ·
       refine T_skip (hK4 _ _ (T_region (L_y (y_move rfl) rfl (L_y (y_add rfl rfl (i64w (by omega))) rfl (L_y (y_assign rfl) rfl (L_nil (⟨k + 1, a + x.toNat % 128 * 128 ^ k, by omega, ⟨⟨⟨by omega, by omega, num_next ha⟩, by rw [← hN, hdr, numF, if_neg hF, if_neg (by omega)]; rfl⟩, S2⟩, ?_⟩))))))); exact (Sub.cons rfl (by first | rfl | exact congrArg (Value.int _) (by omega)) (Sub.cons rfl (by first | rfl | exact congrArg (Value.int _) (by omega)) (Sub.cons rfl rfl (Sub.nil _))))
    ·
     refine L_gno rfl rfl rfl (L_gno rfl rfl rfl (L_gyes rfl rfl (L_y ((by first | exact y_pickT rfl rfl | exact y_pickF rfl rfl)) rfl ?_))); refine L_y ((by first | exact y_pickT rfl rfl | exact y_pickF rfl rfl)) rfl ?_; refine L_nil (hK11 _ _ (T_false rfl (T_skip (hK10 _ _ (T_seq fun K27 hK27 => ?_))))); have hF : ¬ ((k = 9 ∧ 1 < x.toNat) ∨ (0 < k ∧ x.toNat = 0)) := by omega
     have hnm := num_lt hk9 ha (x := x.toNat) (by omega) (fun h => by omega); refine T_region (L_y (y_move rfl) rfl (L_y (y_move rfl) rfl (L_y (y_bits rfl rfl rfl (andX x)) rfl (L_y (y_conv is5 Tryz.underlying102 rfl (u64w (by omega))) rfl (L_y (y_move rfl) rfl (L_y (y_mul rfl rfl (i64w (by omega))) rfl (L_y (y_conv is3 Tryz.underlying68 rfl (u64w (by omega))) rfl (L_y (y_shl rfl rfl (by omega) (shl7 _ k hk9 hnm.1)) rfl (L_y (y_bits rfl rfl rfl (or7 a _ k ha hnm.2)) rfl ?_))))))))); refine L_y (y_assign rfl) rfl (L_nil (hK27 _ _ (T_seq fun K28 hK28 => T_region (L_y (y_move rfl) rfl (L_y (y_lss rfl rfl) rfl (L_nil (hK28 _ _ ?_))))))); refine T_cond rfl (fun h46 => ?_) (fun h46 => ?_)
     ·
      have hN2 : numF (l.drop p) 0 0 = (a + x.toNat % 128 * 128 ^ k, k + 1, 0) := by rw [← hN, hdr, numF, if_neg hF, if_pos (by omega)]
      refine T_seq fun K29 hK29 => T_region (L_y (y_move rfl) rfl (L_y (y_assign rfl) rfl (L_nil (hK29 _ _ (T_ret ?_))))); repeat (first | with_reducible refine up_then ?_ | with_reducible refine up_in ?_)
      refine ret1 rfl rfl ?_; first | exact ⟨_, rfl, by rw [hN2]; rfl, Rdd.turned (S2.turned1 0 rfl) (by rw [hN2, tkP, if_neg hk1]) (by rw [hN2, tkE_no hk1])⟩ | exact ⟨_, rfl, by rw [hN2], Rdd.turned (S2.turned1 0 rfl) (by rw [hN2]) (by rw [hN2])⟩ | exact ⟨_, rfl, by rw [hN2]; rfl, by rw [hN2]; exact Rdd.end2 S2 rfl⟩
     ·
      refine T_skip (hK4 _ _ (T_region (L_y (y_move rfl) rfl (L_y (y_add rfl rfl (i64w (by omega))) rfl (L_y (y_assign rfl) rfl (L_nil (⟨k + 1, a + x.toNat % 128 * 128 ^ k, by omega, ⟨⟨⟨by omega, by omega, num_next ha⟩, by rw [← hN, hdr, numF, if_neg hF, if_neg (by omega)]; rfl⟩, S2⟩, ?_⟩))))))); exact (Sub.cons rfl (by first | rfl | exact congrArg (Value.int _) (by omega)) (Sub.cons rfl (by first | rfl | exact congrArg (Value.int _) (by omega)) (Sub.cons rfl rfl (Sub.nil _))))
theorem Rdd.join {w0 w : World} {M : Nat → Prop} {g n c p' q' : Nat} {A : Option Addr} {l : List UInt8} {X : Array Value} (S : St w0 M [blk g 218 X, row 5 1 A n c (bL l)] w) (hX : X = #[.slice A n c, .int .i64 (p' : Int), .int .i64 (q' : Int)]) : St w0 M [rdr g A n c l p' q'] w := by
  subst hX
  exact S.join
def vaN (l : List UInt8) (p q m : Nat) : Nat × Nat × Nat :=
  if q ≠ 0 then (0, p, q) else if (numF (l.drop p) 0 0).2.2 ≠ 0 then (0, p, (numF (l.drop p) 0 0).2.2) else if m < (numF (l.drop p) 0 0).1 then (0, p, 3) else ((numF (l.drop p) 0 0).1, p + (numF (l.drop p) 0 0).2.1, 0)
theorem rvar (g : Nat) (A : Option Addr) (n c : Nat) (l : List UInt8) (p q : Nat) (m : Nat) (w0 : World) (hw : (rdr g A n c l p q).holds w0) (hp : p ≤ l.length) (hn62 : n ≤ 4611686018427387904) :
    Calls Tryz.prog 129 #[.pointer (some ⟨g, 0, none⟩), .int .u64 (m : Int)] w0 fun e w' => ∃ u, e = .returned u ∧ u = .int .u64 ((vaN l p q m).1 : Int) ∧ Turned w0 w' (rdr g A n c l p q) (rdr g A n c l (vaN l p q m).2.1 (vaN l p q m).2.2) := by
 refine enterD1 (env := [(0, .pointer (some ⟨g, 0, none⟩)), (1, .int .u64 (m : Int))]) [.pointer (some ⟨g, 0, none⟩), .int .u64 (m : Int)] Tryz.func129 rfl Tryz.ntmps129 rfl rfl ?_; have hnl := rdr_len hw; have hnc := ownsRow_cap hw.2; have S0 := St.borrow1 (rdr g A n c l p q) hw (rdr_lt hw); refine T_seq fun K1 hK1 => T_region (L_y (y_assign rfl) rfl (L_nil (hK1 _ _ (T_seq fun K2 hK2 => T_seq fun K3 hK3 => T_region (L_y (y_move rfl) rfl (L_o (o_call Tryz.func137 rfl rfl (rdead g A n c l p _ w0 (S0.get 0 rfl) hp) rfl rfl ?_))))))); rintro e1 w1 ⟨v1, rfl, l1, rfl⟩; refine ⟨_, rfl, ?_⟩; have S1 := S0.like l1; refine L_nil (hK3 _ _ ?_); refine T_cond rfl (fun h7 => ?_) (fun h7 => ?_)
 ·
  refine T_seq fun K4 hK4 => T_region (L_y (y_assign rfl) rfl (L_nil (hK4 _ _ (T_ret ?_)))); repeat (first | with_reducible refine up_then ?_ | with_reducible refine up_in ?_)
  refine retd1 rfl rfl ?_; have hV : vaN l p q m = (0, p, q) := by rw [vaN, if_pos (by omega)]
  exact ⟨_, rfl, by rw [hV]; rfl, by rw [hV]; exact Rdd.turned (S1.turned1 0 rfl) rfl rfl⟩
 ·
  have hq : q = 0 := by omega
  subst hq; refine T_skip (hK2 _ _ (T_seq fun K5 hK5 => T_region (L_y (y_move rfl) rfl (L_y (y_move rfl) rfl (L_y (y_nilp rfl) rfl (L_y (y_fieldA 1 Tryz.underlying218 rfl sz3 rfl rfl rfl) rfl (L_y (y_ldc Tryz.underlying3 rfl rfl (((S1.get 0 rfl).1.cell _).trans (by rfl))) rfl ?_))))))); refine L_defer rfl (L_nil (hK5 _ _ (T_seq fun K6 hK6 => T_region (L_y (y_move rfl) rfl (L_o (o_call Tryz.func168 rfl rfl (rnumber g A n c l p w1 (S1.get 0 rfl) hp hn62) rfl rfl ?_)))))); rintro e2 w2 ⟨v2, rfl, rfl, T2⟩; refine ⟨_, rfl, ?_⟩; have S2 := S1.turn 0 rfl T2; refine L_y (y_assign rfl) rfl (L_nil (hK6 _ _ (T_seq fun K7 hK7 => T_seq fun K8 hK8 => T_region (L_y (y_move rfl) rfl (L_y (y_nilp rfl) rfl (L_y (y_fieldA 2 Tryz.underlying218 rfl sz24 rfl rfl rfl) rfl (L_y (y_ldc Tryz.underlying24 rfl rfl (((S2.get 0 rfl).1.cell _).trans (by rfl))) rfl ?_))))))); refine L_y (y_eql rfl rfl) rfl (L_y (y_move rfl) rfl ?_); refine L_split 20 rfl (fun h20 => ?_) (fun h20 => ?_)
  ·
   refine L_gyes rfl rfl (L_y (y_move rfl) rfl (L_gyes rfl rfl (L_y (y_move rfl) rfl (L_gyes rfl rfl (L_y (y_gtr rfl rfl) rfl (L_y ((by first | exact y_pickT rfl rfl | exact y_pickF rfl rfl)) rfl ?_)))))); refine L_nil (hK8 _ _ ?_); refine T_cond rfl (fun h24 => ?_) (fun h24 => ?_)
   ·
    refine T_region (L_y (y_move rfl) rfl (L_y (y_nilp rfl) rfl ?_)); have S4 := split1 S2 (rdr_apart (S2.get 0 rfl)); refine L_y (y_fieldA 2 Tryz.underlying218 rfl sz24 rfl rfl rfl) rfl (L_o (o_st1 S4 0 rfl rfl rfl rfl sz24 (by simp; done) fun w5 S5 => ?_)); have S6 := Rdd.join S5 (q' := 3) rfl; refine L_nil (hK7 _ _ (T_seq fun K9 hK9 => T_seq fun K10 hK10 => T_region (L_y (y_move rfl) rfl (L_y (y_nilp rfl) rfl (L_y (y_fieldA 2 Tryz.underlying218 rfl sz24 rfl rfl rfl) rfl (L_y (y_ldc Tryz.underlying24 rfl rfl (((S6.get 0 rfl).1.cell _).trans (by rfl))) rfl ?_)))))); refine L_y (y_neq rfl rfl) rfl (L_nil (hK10 _ _ ?_)); refine T_cond rfl (fun h32 => ?_) (fun h32 => ?_)
    ·
     refine T_seq fun K11 hK11 => T_region (L_y (y_assign rfl) rfl (L_nil (hK11 _ _ (T_ret ?_)))); repeat (first | with_reducible refine up_then ?_ | with_reducible refine up_in ?_)
     refine retD1 (f := 167) rfl rfl rfl Tryz.func167 rfl rfl (rback g A n c l _ _ p w5 (S6.get 0 rfl)) ?_; rintro e7 w7 ⟨v7, rfl, T7⟩; refine ⟨_, rfl, ?_⟩; have S7 := S6.turn 0 rfl T7; have hV : vaN l p 0 m = (0, p, 3) := by rw [vaN, if_neg (by omega), if_neg (by omega), if_pos (by omega)]
     exact ⟨_, rfl, by rw [hV]; rfl, by rw [hV]; exact Rdd.turned (S7.turned1 0 rfl) (if_pos (by decide)) rfl⟩
    ·
     refine T_skip (hK9 _ _ (T_seq fun K12 hK12 => T_region (L_y (y_move rfl) rfl (L_y (y_assign rfl) rfl (L_nil (hK12 _ _ (T_ret ?_))))))); repeat (first | with_reducible refine up_then ?_ | with_reducible refine up_in ?_)
     refine retD1 (f := 167) rfl rfl rfl Tryz.func167 rfl rfl (rback g A n c l _ _ p w5 (S6.get 0 rfl)) ?_; rintro e8 w8 ⟨v8, rfl, T8⟩; refine ⟨_, rfl, ?_⟩; have S8 := S6.turn 0 rfl T8; exfalso
     omega
   ·
    refine T_skip (hK7 _ _ (T_seq fun K13 hK13 => T_seq fun K14 hK14 => T_region (L_y (y_move rfl) rfl (L_y (y_nilp rfl) rfl (L_y (y_fieldA 2 Tryz.underlying218 rfl sz24 rfl rfl rfl) rfl (L_y (y_ldc Tryz.underlying24 rfl rfl (((S2.get 0 rfl).1.cell _).trans (by rfl))) rfl ?_)))))); refine L_y (y_neq rfl rfl) rfl (L_nil (hK14 _ _ ?_)); refine T_cond rfl (fun h32 => ?_) (fun h32 => ?_)
    ·
     refine T_seq fun K15 hK15 => T_region (L_y (y_assign rfl) rfl (L_nil (hK15 _ _ (T_ret ?_)))); repeat (first | with_reducible refine up_then ?_ | with_reducible refine up_in ?_)
     refine retD1 (f := 167) rfl rfl rfl Tryz.func167 rfl rfl (rback g A n c l _ _ p w2 (S2.get 0 rfl)) ?_; rintro e9 w9 ⟨v9, rfl, T9⟩; refine ⟨_, rfl, ?_⟩; have S9 := S2.turn 0 rfl T9; exfalso
     omega
    ·
     refine T_skip (hK13 _ _ (T_seq fun K16 hK16 => T_region (L_y (y_move rfl) rfl (L_y (y_assign rfl) rfl (L_nil (hK16 _ _ (T_ret ?_))))))); repeat (first | with_reducible refine up_then ?_ | with_reducible refine up_in ?_)
     refine retD1 (f := 167) rfl rfl rfl Tryz.func167 rfl rfl (rback g A n c l _ _ p w2 (S2.get 0 rfl)) ?_; rintro e10 w10 ⟨v10, rfl, T10⟩; refine ⟨_, rfl, ?_⟩; have S10 := S2.turn 0 rfl T10; have hV : vaN l p 0 m = ((numF (l.drop p) 0 0).1, p + (numF (l.drop p) 0 0).2.1, 0) := by rw [vaN, if_neg (by omega), if_neg (by omega), if_neg (by omega)]
     exact ⟨_, rfl, by rw [hV], by rw [hV]; exact Rdd.turned (S10.turned1 0 rfl) (if_neg (by omega)) (show (numF (l.drop p) 0 0).2.2 = 0 by omega)⟩
  ·
   refine L_gno rfl rfl rfl (L_gno rfl rfl rfl (L_gno rfl rfl rfl (L_y ((by first | exact y_pickT rfl rfl | exact y_pickF rfl rfl)) rfl ?_))); refine L_nil (hK8 _ _ (T_false rfl (T_skip (hK7 _ _ (T_seq fun K17 hK17 => T_seq fun K18 hK18 => T_region (L_y (y_move rfl) rfl (L_y (y_nilp rfl) rfl ?_))))))); refine L_y (y_fieldA 2 Tryz.underlying218 rfl sz24 rfl rfl rfl) rfl (L_y (y_ldc Tryz.underlying24 rfl rfl (((S2.get 0 rfl).1.cell _).trans (by rfl))) rfl ?_); refine L_y (y_neq rfl rfl) rfl (L_nil (hK18 _ _ ?_)); refine T_cond rfl (fun h32 => ?_) (fun h32 => ?_)
   ·
    refine T_seq fun K19 hK19 => T_region (L_y (y_assign rfl) rfl (L_nil (hK19 _ _ (T_ret ?_)))); repeat (first | with_reducible refine up_then ?_ | with_reducible refine up_in ?_)
    refine retD1 (f := 167) rfl rfl rfl Tryz.func167 rfl rfl (rback g A n c l _ _ p w2 (S2.get 0 rfl)) ?_; rintro e11 w11 ⟨v11, rfl, T11⟩; refine ⟨_, rfl, ?_⟩; have S11 := S2.turn 0 rfl T11; have hV : vaN l p 0 m = (0, p, (numF (l.drop p) 0 0).2.2) := by rw [vaN, if_neg (by omega), if_pos (by omega)]
    exact ⟨_, rfl, by rw [hV]; rfl, by rw [hV]; exact Rdd.turned (S11.turned1 0 rfl) (if_pos (by omega)) rfl⟩
   ·
    refine T_skip (hK17 _ _ (T_seq fun K20 hK20 => T_region (L_y (y_move rfl) rfl (L_y (y_assign rfl) rfl (L_nil (hK20 _ _ (T_ret ?_))))))); repeat (first | with_reducible refine up_then ?_ | with_reducible refine up_in ?_)
    refine retD1 (f := 167) rfl rfl rfl Tryz.func167 rfl rfl (rback g A n c l _ _ p w2 (S2.get 0 rfl)) ?_; rintro e12 w12 ⟨v12, rfl, T12⟩; refine ⟨_, rfl, ?_⟩; have S12 := S2.turn 0 rfl T12; exfalso
    omega
theorem numF_le : ∀ (r : List UInt8) (k a : Nat), (numF r k a).2.1 ≤ k + r.length
  | [], k, a => by simp [numF]
  | c :: r, k, a => by
    have h := numF_le r (k + 1) (a + c.toNat % 128 * 128 ^ k)
    unfold numF
    split
    · simp
    · split
      · simp
      · simp only [List.length_cons]
        omega
theorem numF_at (l : List UInt8) (p : Nat) (h : p ≤ l.length) : p + (numF (l.drop p) 0 0).2.1 ≤ l.length := by
  have := numF_le (l.drop p) 0 0
  rw [List.length_drop] at this
  omega
def rnL (l : List UInt8) (p q : Nat) (m : Int) : List UInt8 := if m < 0 then [] else rwL l p q m.toNat
def rnP (l : List UInt8) (p q : Nat) (m : Int) : Nat := if m < 0 then p else rwP l p q m.toNat
def rnE (l : List UInt8) (p q : Nat) (m : Int) : Nat := if m < 0 then (if q ≠ 0 then q else 3) else rwE l p q m.toNat
theorem rdr_same {g n c p q p' q' : Nat} {A : Option Addr} {l : List UInt8} {i : Nat} (h : (rdr g A n c l p q).dom i) : (rdr g A n c l p' q').dom i := h
theorem rraw (g : Nat) (A : Option Addr) (n c : Nat) (l : List UInt8) (p q : Nat) (m : Int) (w0 : World) (hw : (rdr g A n c l p q).holds w0) (hp : p ≤ l.length) (hn62 : n ≤ 70368744177664) (hm : m ≤ 9223372036854775807) :
    Calls Tryz.prog 104 #[.pointer (some ⟨g, 0, none⟩), .int .i64 m] w0 fun e w' => ∃ u, e = .returned u ∧ Turned w0 w' (rdr g A n c l p q) (rdr g A n c l (rnP l p q m) (rnE l p q m)) ∧ ∃ B c2, u = .slice B (rnL l p q m).length c2 ∧ (row 5 1 B (rnL l p q m).length c2 (bL (rnL l p q m))).holds w' ∧ ∀ i, (row 5 1 B (rnL l p q m).length c2 (bL (rnL l p q m))).dom i → w0.heap.size ≤ i := by
 refine enter1 (env := [(0, .pointer (some ⟨g, 0, none⟩)), (1, .int .i64 m)]) [.pointer (some ⟨g, 0, none⟩), .int .i64 m] Tryz.func104 rfl Tryz.ntmps104 rfl rfl ?_; have hnl := rdr_len hw; have hnc := ownsRow_cap hw.2; have S0 := St.borrow1 (rdr g A n c l p q) hw (rdr_lt hw); refine T_seq fun K1 hK1 => T_region (L_y (y_assign rfl) rfl (L_nil (hK1 _ _ (T_seq fun K2 hK2 => T_seq fun K3 hK3 => T_region (L_y (y_move rfl) rfl (L_o (o_call Tryz.func137 rfl rfl (rdead g A n c l p _ w0 (S0.get 0 rfl) hp) rfl rfl ?_))))))); rintro e1 w1 ⟨v1, rfl, l1, rfl⟩; refine ⟨_, rfl, ?_⟩; have S1 := S0.like l1; refine L_nil (hK3 _ _ ?_); refine T_cond rfl (fun h6 => ?_) (fun h6 => ?_)
 ·
  refine T_seq fun K4 hK4 => T_region (L_y (y_assign rfl) rfl (L_nil (hK4 _ _ (T_ret ?_)))); repeat (first | with_reducible refine up_then ?_ | with_reducible refine up_in ?_)
  refine ret1 rfl rfl ?_; have e1 : rnL l p q m = [] := by unfold rnL rwL; split; rfl; rw [if_neg (by omega)]
  have e2 : rnP l p q m = p := by unfold rnP rwP; split; rfl; rw [if_neg (by omega)]
  have e3 : rnE l p q m = q := by unfold rnE rwE; split; rw [if_pos (by omega)]; rw [if_neg (by omega)]
  exact ⟨_, rfl, by rw [e2, e3]; exact S1.turned1 0 rfl, none, 0, by rw [e1]; rfl, by rw [e1]; exact ⟨by simp [bL], .inl ⟨rfl, rfl⟩⟩, fun i hi => by rw [e1] at hi; simp [row, Value.ownBlock] at hi⟩
 ·
  have hq : q = 0 := by omega
  subst hq; refine T_skip (hK2 _ _ (T_seq fun K5 hK5 => T_seq fun K6 hK6 => T_region (L_y (y_move rfl) rfl (L_y (y_lss rfl rfl) rfl (L_nil (hK6 _ _ ?_)))))); refine T_cond rfl (fun h8 => ?_) (fun h8 => ?_)
  ·
   refine T_seq fun K7 hK7 => T_region (L_y (y_move rfl) rfl (L_y (y_move rfl) rfl (L_y (y_nilp rfl) rfl (L_y (y_fieldA 1 Tryz.underlying218 rfl sz3 rfl rfl rfl) rfl (L_y (y_ldc Tryz.underlying3 rfl rfl (((S1.get 0 rfl).1.cell _).trans (by rfl))) rfl ?_))))); refine L_o (o_call Tryz.func138 rfl rfl (rfail g A n c l _ _ p 3 w1 (S1.get 0 rfl) hp) rfl rfl ?_); rintro e2 w2 ⟨v2, rfl, T2⟩; refine ⟨_, rfl, ?_⟩; have S2 := S1.turn 0 rfl T2; refine L_nil (hK7 _ _ (T_seq fun K8 hK8 => T_region (L_y (y_assign rfl) rfl (L_nil (hK8 _ _ (T_ret ?_)))))); repeat (first | with_reducible refine up_then ?_ | with_reducible refine up_in ?_)
   refine ret1 rfl rfl ?_; have e1 : rnL l p 0 m = [] := by rw [rnL, if_pos (by omega)]
   have e2 : rnP l p 0 m = p := by rw [rnP, if_pos (by omega)]
   have e3 : rnE l p 0 m = 3 := by rw [rnE, if_pos (by omega)]; rfl
   exact ⟨_, rfl, by rw [e2, e3]; exact S2.turned1 0 rfl, none, 0, by rw [e1]; rfl, by rw [e1]; exact ⟨by simp [bL], .inl ⟨rfl, rfl⟩⟩, fun i hi => by rw [e1] at hi; simp [row, Value.ownBlock] at hi⟩
  ·
   obtain ⟨k, rfl⟩ : ∃ k : Nat, m = (k : Int) := ⟨m.toNat, by omega⟩; refine T_skip (hK5 _ _ (T_seq fun K9 hK9 => T_region (L_y (y_move rfl) rfl (L_y (y_move rfl) rfl (L_o (o_call Tryz.func139 rfl rfl (rtake g A n c l p _ k w1 (S1.get 0 rfl) hp (by omega) (by omega)) rfl rfl ?_)))))); rintro e3 w3 ⟨v3, rfl, B3, d3, rfl, RR, T3⟩; refine ⟨_, rfl, ?_⟩; have S3 := S1.turn 0 rfl T3; have htl := tk_le l p k; have htn : (tkL l p k).length ≤ l.length := by unfold tkL; split; simp; omega; simp
   refine L_o (o_app0 te22 S3 rfl rfl (RR) (bL_one _) rfl (by omega) (by omega) fun A4 c4 w4 S4 => L_y (y_assign rfl) rfl (L_nil (hK9 _ _ (T_ret ?_)))); repeat (first | with_reducible refine up_then ?_ | with_reducible refine up_in ?_)
   refine ret1 rfl rfl ?_; have e1 : rnL l p 0 (k : Int) = tkL l p k := by rw [rnL, if_neg (by omega), rwL, if_pos rfl, Int.toNat_natCast]
   have e2 : rnP l p 0 (k : Int) = tkP l p k := by rw [rnP, if_neg (by omega), rwP, if_pos rfl, Int.toNat_natCast]
   have e3 : rnE l p 0 (k : Int) = tkE l p k 0 := by rw [rnE, if_neg (by omega), rwE, if_pos rfl, Int.toNat_natCast]
   exact ⟨_, rfl, by rw [e2, e3]; exact S4.turned1 0 rfl, _, _, by rw [e1], by rw [e1]; exact S4.get 1 rfl, fun i hi => by rw [e1] at hi; have h9 := (S4.res _ (List.mem_of_getElem? (show _ = some _ from (rfl : [rdr g A n c l (tkP l p k) (tkE l p k 0), _][1]? = some _)))).2 i hi; rcases h9.2 with h9 | h9; exact h9; exact absurd hi (St.apart_ S4 0 1 rfl rfl rfl i (rdr_same h9))⟩
theorem ru32 (g : Nat) (A : Option Addr) (n c : Nat) (l : List UInt8) (p q : Nat) (w0 : World) (hw : (rdr g A n c l p q).holds w0) (hp : p ≤ l.length) (hn62 : n ≤ 4611686018427387904) :
    Calls Tryz.prog 105 #[.pointer (some ⟨g, 0, none⟩)] w0 fun e w' => ∃ u, e = .returned u ∧ u = .int .u32 (be (rwL l p q 4) : Int) ∧ Turned w0 w' (rdr g A n c l p q) (rdr g A n c l (rwP l p q 4) (rwE l p q 4)) := by
 refine enter1 (env := [(0, .pointer (some ⟨g, 0, none⟩))]) [.pointer (some ⟨g, 0, none⟩)] Tryz.func105 rfl Tryz.ntmps105 rfl rfl ?_; have hnl := rdr_len hw; have hnc := ownsRow_cap hw.2; have S0 := St.borrow1 (rdr g A n c l p q) hw (rdr_lt hw); refine T_seq fun K1 hK1 => T_region (L_y (y_assign rfl) rfl (L_nil (hK1 _ _ (T_seq fun K2 hK2 => T_seq fun K3 hK3 => T_region (L_y (y_move rfl) rfl (L_o (o_call Tryz.func137 rfl rfl (rdead g A n c l p _ w0 (S0.get 0 rfl) hp) rfl rfl ?_))))))); rintro e1 w1 ⟨v1, rfl, l1, rfl⟩; refine ⟨_, rfl, ?_⟩; have S1 := S0.like l1; refine L_nil (hK3 _ _ ?_); refine T_cond rfl (fun h7 => ?_) (fun h7 => ?_)
 ·
  refine T_seq fun K4 hK4 => T_region (L_y (y_assign rfl) rfl (L_nil (hK4 _ _ (T_ret ?_)))); repeat (first | with_reducible refine up_then ?_ | with_reducible refine up_in ?_)
  refine ret1 rfl rfl ?_; first | exact ⟨_, rfl, by rw [rwL, if_neg (by omega)]; rfl, Rdd.turned (S1.turned1 0 rfl) (by rw [rwP, if_neg (by omega)]) (by rw [rwE, if_neg (by omega)])⟩ | exact ⟨_, rfl, by rw [rwL, if_pos rfl, List.take_length], Rdd.turned (S1.turned1 0 rfl) rfl rfl⟩
 ·
  have hq : q = 0 := by omega
  subst hq; refine T_skip (hK2 _ _ (T_seq fun K5 hK5 => T_region (L_y (y_assign rfl) rfl (L_nil (hK5 _ _ (T_seq fun K6 hK6 => T_seq fun K7 hK7 => T_region ?_)))))); refine L_y (y_move rfl) rfl (L_o (o_call Tryz.func139 rfl rfl (rtake g A n c l p _ 4 w1 (S1.get 0 rfl) hp (by omega) hn62) rfl rfl ?_)); rintro e2 w2 ⟨v2, rfl, B2, d2, rfl, R2, T2⟩; refine ⟨_, rfl, ?_⟩; have S2 := S1.turn 0 rfl T2; have RR := R2; refine L_y (y_len Tryz.underlying22 rfl) rfl (L_y (y_move rfl) rfl (L_nil (hK7 _ _ (T_block ?_)))); refine T_loop1 [(9, _), (10, _)] (fun (k : Nat) => [(3, .int .u32 (be ((tkL l p 4).take k) : Int)), (11, .int .i64 (k : Int))]) (fun (k : Nat) => (tkL l p 4).length - k) (fun (k : Nat) (w : World) => (k ≤ (tkL l p 4).length ∧ Rs w 1 B2 (tkL l p 4).length d2 (bL (tkL l p 4))) ∧ St w0 (rdr g A n c l p 0).dom [rdr g A n c l (tkP l p 4) (tkE l p 4 0)] w) 0 (Sub.cons rfl (by first | rfl | exact congrArg (Value.int _) (by omega)) (Sub.cons rfl (by first | rfl | exact congrArg (Value.int _) (by omega)) (Sub.nil _))) (Sub.cons rfl rfl (Sub.cons rfl rfl (Sub.nil _))) ?_ ?_
  ·
   exact ⟨⟨Nat.zero_le _, RR⟩, S2⟩
  ·
   intro k w3 hrel; obtain ⟨⟨hk, RX⟩, S3⟩ := hrel; have htl := tk_le l p 4; refine T_seq fun K8 hK8 => T_region (L_y (y_lss rfl rfl) rfl (L_nil (hK8 _ _ (T_seq fun K9 hK9 => ?_)))); refine T_cond rfl (fun h12 => ?_) (fun h12 => ?_)
   ·
    obtain ⟨x, hx⟩ : ∃ x, (tkL l p 4)[k]? = some x := ⟨_, List.getElem?_eq_getElem (by omega)⟩; have hxl := x.toNat_lt; have hbb := be_bound (k := k) (j := 3) (show k < (tkL l p 4).length by omega) htl; refine T_skip (hK9 _ _ (T_seq fun K10 hK10 => T_block (T_seq fun K11 hK11 => T_region (L_y (y_idx Tryz.underlying22 sz5 rfl rfl (RX) inferInstance (by omega)) rfl (L_y (y_ldr Tryz.underlying5 rfl rfl RX (bL_getX hx)) rfl (L_y (y_assign rfl) rfl (L_nil ?_))))))); refine hK11 _ _ (T_region (L_y (y_move rfl) rfl (L_y (y_shl rfl rfl (by omega) (shl8_32 _ hbb)) rfl (L_y (y_move rfl) rfl (L_y (y_conv is5 Tryz.underlying63 rfl (u32w (by omega))) rfl (L_y (y_bits rfl rfl rfl (orbe32 _ _ hbb)) rfl (L_y (y_assign rfl) rfl (L_nil (hK10 _ _ ?_))))))))); refine T_region (L_y (y_add rfl rfl (i64w (by omega))) rfl (L_y (y_move rfl) rfl (L_nil (⟨k + 1, by omega, ⟨⟨by omega, RX⟩, S3⟩, ?_⟩)))); exact (Sub.cons rfl (congrArg (Value.int _) (by rw [be_take hx])) (Sub.cons rfl (by first | rfl | exact congrArg (Value.int _) (by omega)) (Sub.cons rfl rfl (Sub.cons rfl rfl (Sub.nil _)))))
   ·
    have hke : k = (tkL l p 4).length := by omega
    subst hke; refine T_exit (hK6 _ _ (T_seq fun K12 hK12 => T_region (L_y (y_move rfl) rfl (L_y (y_assign rfl) rfl (L_nil (hK12 _ _ (T_ret ?_))))))); repeat (first | with_reducible refine up_then ?_ | with_reducible refine up_in ?_)
    refine ret1 rfl rfl ?_; first | exact ⟨_, rfl, by rw [rwL, if_neg (by omega)]; rfl, Rdd.turned (S3.turned1 0 rfl) (by rw [rwP, if_neg (by omega)]) (by rw [rwE, if_neg (by omega)])⟩ | exact ⟨_, rfl, by rw [rwL, if_pos rfl, List.take_length], Rdd.turned (S3.turned1 0 rfl) rfl rfl⟩
theorem rbyte (g : Nat) (A : Option Addr) (n c : Nat) (l : List UInt8) (p q : Nat) (w0 : World) (hw : (rdr g A n c l p q).holds w0) (hp : p ≤ l.length) (hn62 : n ≤ 4611686018427387904) :
    Calls Tryz.prog 127 #[.pointer (some ⟨g, 0, none⟩)] w0 fun e w' => ∃ u, e = .returned u ∧ u = .int .u8 (be (rwL l p q 1) : Int) ∧ Turned w0 w' (rdr g A n c l p q) (rdr g A n c l (rwP l p q 1) (rwE l p q 1)) := by
 refine enter1 (env := [(0, .pointer (some ⟨g, 0, none⟩))]) [.pointer (some ⟨g, 0, none⟩)] Tryz.func127 rfl Tryz.ntmps127 rfl rfl ?_; have hnl := rdr_len hw; have hnc := ownsRow_cap hw.2; have S0 := St.borrow1 (rdr g A n c l p q) hw (rdr_lt hw); refine T_seq fun K1 hK1 => T_region (L_y (y_assign rfl) rfl (L_nil (hK1 _ _ (T_seq fun K2 hK2 => T_seq fun K3 hK3 => T_region (L_y (y_move rfl) rfl (L_o (o_call Tryz.func137 rfl rfl (rdead g A n c l p _ w0 (S0.get 0 rfl) hp) rfl rfl ?_))))))); rintro e1 w1 ⟨v1, rfl, l1, rfl⟩; refine ⟨_, rfl, ?_⟩; have S1 := S0.like l1; refine L_nil (hK3 _ _ ?_); refine T_cond rfl (fun h5 => ?_) (fun h5 => ?_)
 ·
  refine T_seq fun K4 hK4 => T_region (L_y (y_assign rfl) rfl (L_nil (hK4 _ _ (T_ret ?_)))); repeat (first | with_reducible refine up_then ?_ | with_reducible refine up_in ?_)
  refine ret1 rfl rfl ?_; first | exact ⟨_, rfl, by rw [rwL, if_neg (by omega)]; rfl, Rdd.turned (S1.turned1 0 rfl) (by rw [rwP, if_neg (by omega)]) (by rw [rwE, if_neg (by omega)])⟩ | (have hk := tkE_caseN h12; exact ⟨_, rfl, by rw [rwL, if_pos rfl, tkL_no hk]; rfl, Rdd.turned (S1.turned1 0 rfl) rfl rfl⟩) | exact ⟨_, rfl, by rw [rwL, if_pos rfl, htk]; simp [be], Rdd.turned (S1.turned1 0 rfl) rfl rfl⟩
 ·
  have hq : q = 0 := by omega
  subst hq; refine T_skip (hK2 _ _ (T_seq fun K5 hK5 => T_region (L_y (y_move rfl) rfl (L_o (o_call Tryz.func139 rfl rfl (rtake g A n c l p _ 1 w1 (S1.get 0 rfl) hp (by omega) hn62) rfl rfl ?_))))); rintro e2 w2 ⟨v2, rfl, B2, d2, rfl, R2, T2⟩; refine ⟨_, rfl, ?_⟩; have S2 := S1.turn 0 rfl T2; have RR := R2; refine L_y (y_assign rfl) rfl (L_nil (hK5 _ _ (T_seq fun K6 hK6 => T_seq fun K7 hK7 => T_region (L_y (y_move rfl) rfl (L_y (y_nilp rfl) rfl (L_y (y_fieldA 2 Tryz.underlying218 rfl sz24 rfl rfl rfl) rfl (L_y (y_ldc Tryz.underlying24 rfl rfl (((S2.get 0 rfl).1.cell _).trans (by rfl))) rfl ?_))))))); refine L_y (y_neq rfl rfl) rfl (L_nil (hK7 _ _ ?_)); refine T_cond rfl (fun h12 => ?_) (fun h12 => ?_)
  ·
   refine T_seq fun K8 hK8 => T_region (L_y (y_assign rfl) rfl (L_nil (hK8 _ _ (T_ret ?_)))); repeat (first | with_reducible refine up_then ?_ | with_reducible refine up_in ?_)
   refine ret1 rfl rfl ?_; first | exact ⟨_, rfl, by rw [rwL, if_neg (by omega)]; rfl, Rdd.turned (S2.turned1 0 rfl) (by rw [rwP, if_neg (by omega)]) (by rw [rwE, if_neg (by omega)])⟩ | (have hk := tkE_caseN h12; exact ⟨_, rfl, by rw [rwL, if_pos rfl, tkL_no hk]; rfl, Rdd.turned (S2.turned1 0 rfl) rfl rfl⟩) | exact ⟨_, rfl, by rw [rwL, if_pos rfl, htk]; simp [be], Rdd.turned (S2.turned1 0 rfl) rfl rfl⟩
  ·
   have hk := tkE_case h12; obtain ⟨x, hx, htk, hdr⟩ := tk_one hk; rw [show bL (tkL l p 1) = bL [x] from congrArg bL htk] at RR; refine T_skip (hK6 _ _ (T_seq fun K9 hK9 => T_region (L_y (y_move rfl) rfl (L_y (y_idx Tryz.underlying22 sz5 rfl rfl (RR) inferInstance (by rw [tkL_ok hk]; decide)) rfl ?_)))); refine L_y (y_ldr Tryz.underlying5 rfl rfl RR (show ([bV x])[0]? = some (Value.int .u8 (x.toNat : Int)) from rfl)) rfl (L_y (y_assign rfl) rfl (L_nil (hK9 _ _ (T_ret ?_)))); repeat (first | with_reducible refine up_then ?_ | with_reducible refine up_in ?_)
   refine ret1 rfl rfl ?_; first | exact ⟨_, rfl, by rw [rwL, if_neg (by omega)]; rfl, Rdd.turned (S2.turned1 0 rfl) (by rw [rwP, if_neg (by omega)]) (by rw [rwE, if_neg (by omega)])⟩ | (have hk := tkE_caseN h12; exact ⟨_, rfl, by rw [rwL, if_pos rfl, tkL_no hk]; rfl, Rdd.turned (S2.turned1 0 rfl) rfl rfl⟩) | exact ⟨_, rfl, by rw [rwL, if_pos rfl, htk]; simp [be], Rdd.turned (S2.turned1 0 rfl) rfl rfl⟩
end Go.Proofs.YtgaklngnfecdaaaGreat.Oct
namespace Go.Proofs.YtgaklngnfecdaaaGreat.Oct
open Go.RowKit Zk Zx
theorem numF_back (rest : List UInt8) : ∀ (n t k a : Nat), t ≤ n → k ≤ 9 → (k = 9 → t ≤ 1) → (0 < k → 0 < t) → (t * 128 ^ k ≤ 18446744073709551615) → numF (vr t ++ rest) k a = (a + t * 128 ^ k, k + (vr t).length, 0)
  | n, t, k, a, hn, hk, h9, h0, hm => by
    by_cases hl : t < 128
    · rw [vr_low _ hl, List.singleton_append, numF, show (UInt8.ofNat t).toNat = t by rw [UInt8.toNat_ofNat']; omega, if_neg (by omega), if_pos hl, Nat.mod_eq_of_lt hl]
      rfl
    · have hk9 : k ≠ 9 := fun h => by have := h9 h; omega
      have e1 : (UInt8.ofNat (t % 128 + 128)).toNat = t % 128 + 128 := by rw [UInt8.toNat_ofNat']; omega
      have e2 : t / 128 * 128 ^ (k + 1) + t % 128 * 128 ^ k = t * 128 ^ k := by
        rw [Nat.pow_succ, Nat.mul_comm (128 ^ k), ← Nat.mul_assoc, ← Nat.add_mul]
        congr 1
        omega
      match n, hn with
      | 0, hn => exact absurd hn (by omega)
      | n + 1, hn =>
        have ih := numF_back rest n (t / 128) (k + 1) (a + t % 128 * 128 ^ k) (by omega) (by omega) (fun h => by
          have h8 : k = 8 := by omega
          subst h8
          have h4 : (128 : Nat) ^ 8 = 72057594037927936 := rfl
          rw [h4] at hm
          omega) (fun _ => by omega) (by omega)
        rw [vr_big _ (by omega), List.cons_append, numF, e1, if_neg (by omega), if_neg (by omega), show (t % 128 + 128) % 128 = t % 128 by omega, ih, List.length_cons]
        simp only [Prod.mk.injEq, and_true]
        omega
theorem numF_of_vr (rest : List UInt8) (t : Nat) (h : t ≤ 18446744073709551615) : numF (vr t ++ rest) 0 0 = (t, (vr t).length, 0) := by
  have := numF_back rest t t 0 0 (Nat.le_refl _) (by omega) (by omega) (by omega) (by omega)
  simpa using this
theorem vaN_le (l : List UInt8) (p q m : Nat) (hp : p ≤ l.length) : (vaN l p q m).2.1 ≤ l.length := by
  unfold vaN
  have := numF_at l p hp
  repeat' split
  all_goals simp only; omega
end Go.Proofs.YtgaklngnfecdaaaGreat.Oct
namespace Go.Proofs.YtgaklngnfecdaaaGreat.Oct
open Go.RowKit Zk Zx
theorem St.rdM {w0 w : World} {M : Nat → Prop} {rs : List Res} (S : St w0 M rs w) {size n c : Nat} {A : Option Addr} {xs : List Value} (h : Rs w0 size A n c xs) (hM : ∀ ad, 0 < n → A = some ad → ¬ M ad.block) : Rs w size A n c xs :=
  (fixed size A n c xs).stable w0 w (fun i ⟨ad, hn, hA, hi⟩ => by
    subst hi
    obtain ⟨ad', hA', hb, _⟩ := h.rd.2 hn
    rw [hA] at hA'
    cases hA'
    exact S.old _ hb (hM ad hn hA)) h
theorem rn_nat (l : List UInt8) (p q k : Nat) : rnL l p q (k : Int) = rwL l p q k ∧ rnP l p q (k : Int) = rwP l p q k ∧ rnE l p q (k : Int) = rwE l p q k :=
  ⟨by rw [rnL, if_neg (by omega), Int.toNat_natCast], by rw [rnP, if_neg (by omega), Int.toNat_natCast], by rw [rnE, if_neg (by omega), Int.toNat_natCast]⟩
theorem rw_le (l : List UInt8) (p q k : Nat) : (rwL l p q k).length ≤ k := by
  unfold rwL
  split
  · exact tk_le l p k
  · simp
end Go.Proofs.YtgaklngnfecdaaaGreat.Oct
namespace Go.Proofs.YtgaklngnfecdaaaGreat.Pak
open Go.RowKit Zk Zx
open Sha (N)
open Go.Proofs.YtgaklngnfecdaaaGreat.Obj (objE objB nameI nameI_len nameI_ok nameI_no zB)
open Del (mkV encV)
structure It where
  kind : Int
  p : Part
abbrev IV := Int × List UInt8
def It.v (x : It) : IV := (x.kind, x.p.l)
def itf (x : It) : List Value := [.int .i64 x.kind, pv x.p]
theorem itf_len (x : It) : (itf x).length = 2 := rfl
theorem itf_one (x : It) : ∀ u ∈ itf x, u.oneCell' = true := fun u hu => by
  simp [itf, pv] at hu
  rcases hu with rfl | rfl <;> rfl
def OkI (w : World) (l : List It) : Prop := ∀ x ∈ l, x.p.ok w
theorem OkI.like {w w' : World} {l : List It} (h : OkI w l) (lk : Like w w') : OkI w' l := fun x hx => Rs.like (h x hx) lk
theorem OkI.at {w : World} {l : List It} (h : OkI w l) {k : Nat} {x : It} (hx : l[k]? = some x) : x.p.ok w := h x (List.mem_of_getElem? hx)
theorem its_len {w : World} {A : Option Addr} {n c : Nat} {l : List It} (h : Rs w 2 A n c (l.flatMap itf)) : n = l.length := by
  have h2 : (l.flatMap itf).length = n * 2 := h.len
  rw [flat_len itf 2 itf_len] at h2
  omega
def nmE : List IV → Int
  | [] => 0
  | x :: r => if objE x.1 x.2 ≠ 0 then objE x.1 x.2 else nmE r
def idB (x : IV) : List Value := bL (nameI x.1 x.2)
theorem idB_len (x : IV) : (idB x).length = 32 := by unfold idB; rw [length_bL, nameI_len]
def idsV (l : List IV) : List (List UInt8) := l.map fun x => nameI x.1 x.2
def nameE (l : List IV) : Int := if nmE l ≠ 0 then nmE l else if (idsV l).Nodup then 0 else 17
theorem nmE_at : ∀ {l : List IV} {k : Nat} {x : IV}, (∀ y ∈ l.take k, objE y.1 y.2 = 0) → l[k]? = some x → objE x.1 x.2 ≠ 0 → nmE l = objE x.1 x.2
  | y :: r, 0, x, _, hx, he => by
    simp at hx
    subst hx
    unfold nmE
    rw [if_pos he]
  | y :: r, k + 1, x, h, hx, he => by
    unfold nmE
    rw [if_neg (fun q => q (h y (by simp)))]
    exact nmE_at (k := k) (fun z hz => h z (by simp [hz])) (by simpa using hx) he
theorem nmE_zero : ∀ {l : List IV}, (∀ x ∈ l, objE x.1 x.2 = 0) → nmE l = 0
  | [], _ => rfl
  | y :: r, h => by
    unfold nmE
    rw [if_neg (fun q => q (h y (by simp)))]
    exact nmE_zero fun z hz => h z (by simp [hz])
theorem nmE_all : ∀ {l : List IV}, nmE l = 0 → ∀ x ∈ l, objE x.1 x.2 = 0
  | y :: r, h, x, hx => by
    unfold nmE at h
    by_cases he : objE y.1 y.2 = 0
    · rw [if_neg (fun q => q he)] at h
      rcases List.mem_cons.1 hx with rfl | hx
      · exact he
      · exact nmE_all h x hx
    · rw [if_pos he] at h
      exact absurd h he
theorem nameE_e {l : List IV} (h : nmE l ≠ 0) : nameE l = nmE l := by unfold nameE; rw [if_pos h]
theorem nameE_17 {l : List IV} (h : nmE l = 0) (h2 : ¬ (idsV l).Nodup) : nameE l = 17 := by unfold nameE; rw [if_neg (fun q => q h), if_neg h2]
theorem nameE_0 {l : List IV} (h : nmE l = 0) (h2 : (idsV l).Nodup) : nameE l = 0 := by unfold nameE; rw [if_neg (fun q => q h), if_pos h2]
theorem nameE_ok {l : List IV} (h : nameE l = 0) : (∀ x ∈ l, objE x.1 x.2 = 0) ∧ (idsV l).Nodup := by
  unfold nameE at h
  by_cases h1 : nmE l = 0
  · rw [if_neg (fun q => q h1)] at h
    by_cases h2 : (idsV l).Nodup
    · exact ⟨nmE_all h1, h2⟩
    · rw [if_neg h2] at h; cases h
  · rw [if_pos h1] at h; exact absurd h h1
structure Ob where
  kind : Int
  l : List UInt8
  dep : Nat
  at_ : Nat
  sum : UInt32
def Ob.id (o : Ob) : List UInt8 := nameI o.kind o.l
theorem Ob.id_len (o : Ob) : o.id.length = 32 := nameI_len _ _
def plO (o : Ob) : List Value := bL o.id ++ [.int .i64 (o.at_ : Int), .int .u32 (N o.sum)]
theorem plO_len (o : Ob) : (plO o).length = 34 := by simp [plO, length_bL, Ob.id_len]
theorem plO_one (o : Ob) : ∀ u ∈ plO o, u.oneCell' = true := fun u hu => by
  rcases List.mem_append.1 hu with h | h
  · exact bL_one _ u h
  · simp at h
    rcases h with rfl | rfl <;> rfl
def candF (os : List Ob) (kind chain : Int) : Nat → Nat → List Nat
  | 0, _ => []
  | j + 1, seen => if 4 ≤ seen then [] else match os[j]? with
    | none => []
    | some o => if o.kind ≠ kind then candF os kind chain j seen else (if (o.dep : Int) < chain then [j] else []) ++ candF os kind chain j (seen + 1)
section
variable {os : List Ob} {kind chain : Int} {j seen : Nat} {o : Ob}
theorem cand_full (h : 4 ≤ seen) : candF os kind chain j seen = [] := by
  cases j with
  | zero => rfl
  | succ j => unfold candF; rw [if_pos h]
theorem cand_skip (h : seen < 4) (ho : os[j]? = some o) (hk : o.kind ≠ kind) : candF os kind chain (j + 1) seen = candF os kind chain j seen := by
  conv => lhs; unfold candF
  rw [if_neg (by omega), ho]
  exact if_pos hk
theorem cand_yes (h : seen < 4) (ho : os[j]? = some o) (hk : o.kind = kind) (hd : (o.dep : Int) < chain) : candF os kind chain (j + 1) seen = j :: candF os kind chain j (seen + 1) := by
  conv => lhs; unfold candF
  rw [if_neg (by omega), ho]
  show (if o.kind ≠ kind then _ else _) = _
  rw [if_neg (fun q => q hk), if_pos hd]
  rfl
theorem cand_no (h : seen < 4) (ho : os[j]? = some o) (hk : o.kind = kind) (hd : ¬ (o.dep : Int) < chain) : candF os kind chain (j + 1) seen = candF os kind chain j (seen + 1) := by
  conv => lhs; unfold candF
  rw [if_neg (by omega), ho]
  show (if o.kind ≠ kind then _ else _) = _
  rw [if_neg (fun q => q hk), if_neg hd]
  rfl
theorem cand_lt : ∀ (j seen : Nat), ∀ k ∈ candF os kind chain j seen, k < j ∧ ∃ o, os[k]? = some o ∧ o.kind = kind ∧ (o.dep : Int) < chain
  | 0, _, k, hk => by cases hk
  | j + 1, seen, k, hk => by
    unfold candF at hk
    split at hk
    · cases hk
    · cases ho : os[j]? with
      | none => rw [ho] at hk; cases hk
      | some o =>
        rw [ho] at hk
        dsimp only at hk
        by_cases hq : o.kind ≠ kind
        · rw [if_pos hq] at hk
          have := cand_lt j seen k hk
          exact ⟨by omega, this.2⟩
        · rw [if_neg hq] at hk
          rcases List.mem_append.1 hk with hk | hk
          · by_cases hd : (o.dep : Int) < chain
            · rw [if_pos hd] at hk
              obtain rfl := List.mem_singleton.1 hk
              exact ⟨by omega, o, ho, Classical.not_not.1 hq, hd⟩
            · rw [if_neg hd] at hk; cases hk
          · have := cand_lt j (seen + 1) k hk
            exact ⟨by omega, this.2⟩
end
def scB (a x : List UInt8) : List UInt8 := encV (a.length : Int) (x.length : Int) (mkV a x)
def stepS (os : List Ob) (x : List UInt8) (r : Int × List UInt8) (k : Nat) : Int × List UInt8 := match os[k]? with
  | none => r
  | some o => if (scB o.l x).length < r.2.length then ((k : Int), scB o.l x) else r
def shF (os : List Ob) (x : List UInt8) (ks : List Nat) (r : Int × List UInt8) : Int × List UInt8 := ks.foldl (stepS os x) r
def toldV (os : List Ob) (chain kind : Int) (x : List UInt8) : Int × List UInt8 := shF os x (candF os kind chain os.length 0) (-1, x)
theorem step_yes {os : List Ob} {x : List UInt8} {r : Int × List UInt8} {k : Nat} {o : Ob} (ho : os[k]? = some o) (h : (scB o.l x).length < r.2.length) : stepS os x r k = ((k : Int), scB o.l x) := by
  unfold stepS; rw [ho]; exact if_pos h
theorem step_no {os : List Ob} {x : List UInt8} {r : Int × List UInt8} {k : Nat} {o : Ob} (ho : os[k]? = some o) (h : ¬ (scB o.l x).length < r.2.length) : stepS os x r k = r := by
  unfold stepS; rw [ho]; exact if_neg h
def ToldOk (os : List Ob) (chain kind : Int) (x : List UInt8) (r : Int × List UInt8) : Prop :=
  (r.1 = -1 ∧ r.2 = x) ∨ ∃ k o, r.1 = ((k : Nat) : Int) ∧ os[k]? = some o ∧ o.kind = kind ∧ (o.dep : Int) < chain ∧ r.2 = scB o.l x ∧ r.2.length < x.length
theorem shF_ok {os : List Ob} {chain kind : Int} {x : List UInt8} : ∀ (ks : List Nat) (r : Int × List UInt8), (∀ k ∈ ks, ∃ o, os[k]? = some o ∧ o.kind = kind ∧ (o.dep : Int) < chain) → r.2.length ≤ x.length → ToldOk os chain kind x r → ToldOk os chain kind x (shF os x ks r) ∧ (shF os x ks r).2.length ≤ x.length
  | [], r, _, hl, h => ⟨h, hl⟩
  | k :: ks, r, hk, hl, h => by
    obtain ⟨o, ho, h1, h2⟩ := hk k (by simp)
    show ToldOk os chain kind x (shF os x ks (stepS os x r k)) ∧ (shF os x ks (stepS os x r k)).2.length ≤ x.length
    by_cases hs : (scB o.l x).length < r.2.length
    · rw [step_yes ho hs]
      exact shF_ok ks _ (fun q hq => hk q (by simp [hq])) (by show (scB o.l x).length ≤ _; omega) (.inr ⟨k, o, rfl, ho, h1, h2, rfl, by show (scB o.l x).length < _; omega⟩)
    · rw [step_no ho hs]
      exact shF_ok ks r (fun q hq => hk q (by simp [hq])) hl h
theorem told_ok (os : List Ob) (chain kind : Int) (x : List UInt8) : ToldOk os chain kind x (toldV os chain kind x) ∧ (toldV os chain kind x).2.length ≤ x.length :=
  shF_ok _ _ (fun k hk => (cand_lt _ _ k hk).2) (Nat.le_refl _) (.inl ⟨rfl, rfl⟩)
structure Pk where
  bs : List UInt8
  os : List Ob
def entB (k : UInt8) (bk : List UInt8) (load : List UInt8) : List UInt8 := [k] ++ Oct.vr load.length ++ bk ++ Oct.tl (crcL load).toNat 4 ++ load
def ofAt (os : List Ob) (k : Int) : Nat := (os[k.toNat]?.elim 0 Ob.at_)
def ofDep (os : List Ob) (k : Int) : Nat := (os[k.toNat]?.elim 0 Ob.dep)
def layO (s : Pk) (v : IV) (r : Int × List UInt8) : Pk :=
  if r.1 < 0 then ⟨s.bs ++ entB (UInt8.ofNat v.1.toNat) [] r.2, s.os ++ [⟨v.1, v.2, 0, s.bs.length, crcL r.2⟩]⟩
  else ⟨s.bs ++ entB 5 (Oct.vr (s.bs.length - ofAt s.os r.1)) r.2, s.os ++ [⟨v.1, v.2, ofDep s.os r.1 + 1, s.bs.length, crcL r.2⟩]⟩
def addV (chain : Int) (s : Pk) (v : IV) : Pk := layO s v (toldV s.os chain v.1 v.2)
def frontB (n : Nat) : List UInt8 := [80, 65, 67, 75] ++ Oct.tl 1 4 ++ Oct.tl n 4
theorem frontB_len (n : Nat) : (frontB n).length = 12 := by simp [frontB, Oct.length_tl]
def packN (chain : Int) (n : Nat) (l : List IV) : Pk := l.foldl (addV chain) ⟨frontB n, []⟩
def packV (chain : Int) (l : List IV) : Pk := packN chain l.length l
def packB (chain : Int) (l : List IV) : List UInt8 := (packV chain l).bs ++ Sha.ofL (packV chain l).bs
theorem packN_succ {chain : Int} {n : Nat} {l : List IV} {k : Nat} {x : IV} (h : l[k]? = some x) : packN chain n (l.take (k + 1)) = addV chain (packN chain n (l.take k)) x := by
  unfold packN
  rw [List.take_add_one, h, List.foldl_append]
  rfl
def wrE (chain : Int) (l : List IV) : Int := if chain < 0 ∨ 8 < chain then 2 else nameE l
theorem layO_len (s : Pk) (v : IV) (r : Int × List UInt8) : (layO s v r).os.length = s.os.length + 1 := by
  unfold layO; split <;> simp
theorem layO_bs (s : Pk) (v : IV) (r : Int × List UInt8) (h : r.2.length ≤ 300) (hb : s.bs.length ≤ 20000) : (layO s v r).bs.length ≤ s.bs.length + 320 := by
  have h1 := Oct.vr_len r.2.length 1 (by omega)
  unfold layO entB
  split
  · simp [Oct.length_tl]; omega
  · have h2 := Oct.vr_len (s.bs.length - ofAt s.os r.1) 2 (by omega)
    simp [Oct.length_tl]; omega
theorem pack_inv {chain : Int} {n : Nat} {l : List IV} (hs : ∀ x ∈ l, x.2.length ≤ 300) : ∀ k, k ≤ l.length → k ≤ 24 → (packN chain n (l.take k)).os.length = k ∧ 12 ≤ (packN chain n (l.take k)).bs.length ∧ (packN chain n (l.take k)).bs.length ≤ 12 + k * 320
  | 0, _, _ => by simp [packN, frontB_len]
  | k + 1, hk, h24 => by
    obtain ⟨x, hx⟩ : ∃ x, l[k]? = some x := ⟨_, List.getElem?_eq_getElem (by omega)⟩
    obtain ⟨h1, h2, h3⟩ := pack_inv (chain := chain) (n := n) hs k (by omega) (by omega)
    rw [packN_succ hx]
    have h4 := (told_ok (packN chain n (l.take k)).os chain x.1 x.2).2
    have h5 := hs x (List.mem_of_getElem? hx)
    have h6 := layO_bs (packN chain n (l.take k)) x (toldV (packN chain n (l.take k)).os chain x.1 x.2) (by omega) (by omega)
    refine ⟨by unfold addV; rw [layO_len, h1], ?_, by unfold addV; omega⟩
    unfold addV layO
    split <;> (simp; omega)
theorem pack_os {chain : Int} {n : Nat} {l : List IV} : ∀ k, k ≤ l.length → (packN chain n (l.take k)).os.map (fun o => (o.kind, o.l)) = l.take k
  | 0, _ => by simp [packN]
  | k + 1, hk => by
    obtain ⟨x, hx⟩ : ∃ x, l[k]? = some x := ⟨_, List.getElem?_eq_getElem (by omega)⟩
    have h1 := pack_os (chain := chain) (n := n) (l := l) k (by omega)
    rw [packN_succ hx, List.take_add_one, hx]
    unfold addV layO
    split <;> simp [h1]
end Go.Proofs.YtgaklngnfecdaaaGreat.Pak
namespace Go.Proofs.YtgaklngnfecdaaaGreat.Pak
open Go.RowKit Zk Zx
open Sha (N xorN andN notN N_ge N_le)
open Go.Proofs.YtgaklngnfecdaaaGreat.Obj (objE objB nameI nameI_len nameI_ok nameI_no zB zB_len rs_tail)
open Oct (vaN rwL rwP rwE rnL rnP rnE be vr tl length_tl)
open Del (scA opf OP OkO mkV encV putR readV aplR)
theorem name_ (k : Int) (B : Option Addr) (m d : Nat) (b : List UInt8) (w0 : World) (hb : Rs w0 1 B m d (bL b)) (hm9 : m ≤ 90000) :
    Calls Tryz.prog 23 #[.int .i64 k, .slice B m d] w0 fun e w' => ∃ u, e = .returned u ∧ Like w0 w' ∧ u = .tuple #[.agg (bA (nameI k b)), .int .i64 (objE k b)] := by
  by_cases he : objE k b = 0
  · exact Obj.name1 k B m d b w0 hb hm9 he
  · exact Obj.name0 k B m d b w0 hb hm9 he
def NamesV (w0 w' : World) (l : List IV) (u : Value) : Prop := (nameE l ≠ 0 ∧ u = .tuple #[.slice none 0 0, .int .i64 (nameE l)]) ∨ (nameE l = 0 ∧ ∃ A c, u = .tuple #[.slice A l.length c, .int .i64 0] ∧ w'.ownsRow w0.heap.size 41 32 (.slice A l.length c) l.length (l.flatMap idB))
theorem vs_at {its : List It} {k : Nat} {x : It} (hx : its[k]? = some x) : (its.map It.v)[k]? = some (x.kind, x.p.l) := by rw [List.getElem?_map, hx]; rfl
theorem ok_next {l : List IV} {k : Nat} {x : IV} (hx : l[k]? = some x) (h : ∀ y ∈ l.take k, objE y.1 y.2 = 0) (he : objE x.1 x.2 = 0) : ∀ y ∈ l.take (k + 1), objE y.1 y.2 = 0 := fun y hy => by
  rw [List.take_add_one, hx] at hy
  rcases List.mem_append.1 hy with q | q
  · exact h y q
  · obtain rfl := List.mem_singleton.1 q
    exact he
theorem ids_next {l : List IV} {k : Nat} {x : IV} (hx : l[k]? = some x) : idsV (l.take (k + 1)) = idsV (l.take k) ++ [nameI x.1 x.2] := by
  rw [List.take_add_one, hx]
  unfold idsV
  rw [List.map_append]
  rfl
theorem fm_next {l : List IV} {k : Nat} {x : IV} (hx : l[k]? = some x) : (l.take (k + 1)).flatMap idB = (l.take k).flatMap idB ++ idB x := by
  rw [List.take_add_one, hx, List.flatMap_append]
  simp
theorem ids_len (l : List IV) : (idsV l).length = l.length := by simp [idsV]
theorem id_part (x : IV) : ((bA (nameI x.1 x.2)).toList.drop 0).take 32 = idB x ∧ (idB x).length = 32 := by
  refine ⟨?_, idB_len x⟩
  rw [List.drop_zero]
  exact List.take_of_length_le (Nat.le_of_eq (idB_len x))
theorem idB_one (x : IV) : ∀ u ∈ idB x, u.oneCell' = true := bL_one _
theorem names (A : Option Addr) (n c : Nat) (its : List It) (w0 : World) (hits : Rs w0 2 A n c (its.flatMap itf)) (hok : OkI w0 its) (hsm : ∀ x ∈ its, x.p.n ≤ 90000) (hn9 : n ≤ 100000) :
    Calls Tryz.prog 54 #[.slice A n c] w0 fun e w' => ∃ u, e = .returned u ∧ Like w0 w' ∧ NamesV w0 w' (its.map It.v) u := by
 refine enter1 (env := [(0, .slice A n c)]) [.slice A n c] Tryz.func54 rfl Tryz.ntmps54 rfl rfl ?_; have hn := its_len hits; have hcap := hits.cap; have hmax := hits.max; have S0 := St.start w0 noM; refine T_seq fun K1 hK1 => T_region (L_y (y_assign rfl) rfl (L_y (y_assign rfl) rfl (L_nil (hK1 _ _ (T_seq fun K2 hK2 => T_region (L_y (y_move rfl) rfl (L_y (y_len Tryz.underlying48 rfl) rfl ?_))))))); refine L_o (o_makeN te81 [] (by simp) (fun i hi => by omega) (by omega) S0 rfl rfl inferInstance inferInstance rfl (by omega) (by omega) (by omega) fun b1 w1 S1 => ?_); refine L_y (y_assign rfl) rfl (L_nil (hK2 _ _ (T_seq fun K3 hK3 => T_region (L_o (o_makeMapB (n := 32) S1 rfl fun bm w2 hbm S2 => L_y (y_assign rfl) rfl (L_nil (hK3 _ _ (T_seq fun K4 hK4 => ?_)))))))); refine T_seq fun K5 hK5 => T_region (L_y (y_move rfl) rfl (L_y (y_len Tryz.underlying48 rfl) rfl (L_y (y_move rfl) rfl (L_nil (hK5 _ _ (T_block ?_)))))); refine T_loop3 [(0, _), (5, _), (14, _), (15, _)] (fun (k : Nat) (A1 : Option Addr) (c1 : Nat) => [(16, .int .i64 (k : Int)), (4, .slice A1 k c1)]) (fun (k : Nat) (A1 : Option Addr) (c1 : Nat) => n - k) (fun (k : Nat) (A1 : Option Addr) (c1 : Nat) (w : World) => (k ≤ n ∧ ∀ y ∈ (its.map It.v).take k, objE y.1 y.2 = 0) ∧ Zx.St w0 noM [Zx.row 41 32 A1 k c1 (((its.map It.v).take k).flatMap idB), mapB 32 bm (setB (idsV ((its.map It.v).take k)))] w) 0 _ _ (Sub.cons rfl (by first | rfl | exact congrArg (Value.int _) (by omega)) (Sub.cons rfl (by first | rfl | exact congrArg (Value.int _) (by omega)) (Sub.nil _))) (Sub.cons rfl rfl (Sub.cons rfl rfl (Sub.cons rfl rfl (Sub.cons rfl rfl (Sub.nil _))))) ?_ ?_
 ·
  exact ⟨⟨by omega, fun y hy => by cases hy⟩, S2⟩
 ·
  intro k A1 c1 w3 hrel; obtain ⟨⟨hk, hok2⟩, S3⟩ := hrel; refine T_seq fun K6 hK6 => T_region (L_y (y_lss rfl rfl) rfl (L_nil (hK6 _ _ (T_seq fun K7 hK7 => ?_)))); refine T_cond rfl (fun h17 => ?_) (fun h17 => ?_)
  ·
   obtain ⟨x, hx⟩ : ∃ x, its[k]? = some x := ⟨_, List.getElem?_eq_getElem (by omega)⟩; have hxo := hok.at hx; have hxm := hsm x (List.mem_of_getElem? hx); refine T_skip (hK7 _ _ (T_seq fun K8 hK8 => T_block (T_seq fun K9 hK9 => T_region (L_y (y_idx Tryz.underlying48 sz65 rfl rfl (S3.rd hits) inferInstance (by omega)) rfl (L_y (y_ldp (f := itf) itf_len Tryz.underlying65 rfl sz65 rfl (S3.rd hits) (by omega) hx) rfl (L_o (o_alloc zz65 S3 rfl fun b4 w4 hb4 S4 => L_o (o_stW S4 2 rfl rfl rfl sz65 (by rfl) (fun u hu => itf_one x u (by rw [List.toList_toArray] at hu; exact hu)) fun w5 S5 => ?_)))))))); refine L_nil (hK9 _ _ (T_seq fun K10 hK10 => T_region (L_y (y_fieldA 0 Tryz.underlying65 rfl sz3 rfl rfl rfl) rfl (L_y (y_ldc Tryz.underlying3 rfl rfl (((S5.blk 2 rfl).cell _).trans (by rfl))) rfl ?_)))); refine L_y (y_fieldA 1 Tryz.underlying65 rfl sz22 rfl rfl rfl) rfl (L_y (y_ldc Tryz.underlying22 rfl rfl (((S5.blk 2 rfl).cell _).trans (by rfl))) rfl ?_); refine L_o (o_call Tryz.func23 rfl rfl (name_ x.kind x.p.A x.p.n x.p.c x.p.l w5 (S5.rd hxo) hxm) rfl rfl ?_); rintro e6 w6 ⟨v6, rfl, l6, rfl⟩; refine ⟨_, rfl, ?_⟩; have S6 := S5.like l6; refine L_y (y_move rfl) rfl (L_y (y_extract rfl rfl) rfl (L_y (y_extract rfl rfl) rfl (L_o (o_alloc zz41 S6 rfl fun b7 w7 hb7 S7 => ?_)))); have S8 : Zx.St w0 noM [Zx.row 41 32 A1 k c1 (((its.map It.v).take k).flatMap idB), mapB 32 bm (setB (idsV ((its.map It.v).take k))), blk b4 65 (itf x).toArray, blk b7 41 (bA zB)] w7 := S7.cast (by kernel_rfl); refine L_o (o_stW S8 3 rfl rfl rfl (by first | exact sz41 | (rw [size_bA, nameI_len]; exact sz41)) (by first | rfl | (rw [size_bA, size_bA, nameI_len]; rfl)) (Sha.bA_one _) fun w9 S9 => ?_); refine L_y (y_assign rfl) rfl (L_nil (hK10 _ _ (T_seq fun K11 hK11 => T_seq fun K12 hK12 => T_region (L_y (y_move rfl) rfl (L_y (y_neq rfl rfl) rfl (L_nil (hK12 _ _ ?_))))))); refine T_cond rfl (fun h29 => ?_) (fun h29 => ?_)
   ·
    refine T_seq fun K13 hK13 => T_region (L_y (y_move rfl) rfl (L_y (y_assign rfl) rfl (L_y (y_assign rfl) rfl (L_nil (hK13 _ _ (T_ret ?_)))))); repeat (first | with_reducible refine up_then ?_ | with_reducible refine up_in ?_)
    refine ret2 rfl rfl rfl ?_; have he : nameE (its.map It.v) = objE x.kind x.p.l := by rw [nameE_e (by rw [nmE_at hok2 (vs_at hx) h29]; exact h29), nmE_at hok2 (vs_at hx) h29]
    exact ⟨_, rfl, S9.like0, .inl ⟨by rw [he]; exact h29, by rw [he]; rfl⟩⟩
   ·
    refine T_skip (hK11 _ _ (T_seq fun K14 hK14 => T_region (L_y (y_move rfl) rfl (L_y (y_ldW Tryz.underlying41 rfl sz41 rfl (S9.blk 3 rfl) (id_part (x.kind, x.p.l))) rfl (L_o (o_bsl (idB (x.kind, x.p.l)) te81 zz41 S9 rfl rfl rfl (by simp [Value.cells, idB_len]) (by simp [Value.cells]) rfl rfl rfl fun b10 w10 S10 => ?_)))))); refine L_o (o_app te81 S10 0 rfl rfl rfl (by first | exact S10.row 0 rfl | exact S10.row 4 rfl) (idB_one _) rfl (by omega) (by omega) fun A11 c11 w11 S11 => ?_); have S11d := S11.drop (rs' := [_, _, _, _]) (.cons_cons _ (.cons_cons _ (.cons_cons _ (.cons_cons _ (.cons _ (.refl _)))))); refine L_y (y_assign rfl) rfl (L_nil (hK14 _ _ (T_region (L_y (y_move rfl) rfl (L_y (y_ldW Tryz.underlying41 rfl sz41 rfl (S11d.blk 3 rfl) (id_part (x.kind, x.p.l))) rfl (L_o (o_mapUpB S11d 1 rfl Tryz.underlying162 Tryz.underlying41 Tryz.underlying5 sz5 rfl rfl rfl (nameI_len _ _) fun w12 S12 => L_nil (hK8 _ _ (T_region ?_))))))))); refine L_y (y_add rfl rfl (i64w (by omega))) rfl (L_y (y_move rfl) rfl (L_nil ?_)); have S91 := S12.sel [0, 1] (by decide); have S92 := S91.rowc 0 rfl (n' := k + 1) (xs' := ((its.map It.v).take (k + 1)).flatMap idB) rfl (fm_next (vs_at hx)).symm; rw [← setB_snoc, ← ids_next (vs_at hx)] at S92; refine ⟨k + 1, _, _, by omega, ⟨⟨by omega, ok_next (vs_at hx) hok2 (Classical.not_not.1 h29)⟩, S92⟩, ?_⟩; exact (Sub.cons rfl (by first | rfl | exact congrArg (Value.int _) (by omega)) (Sub.cons rfl (by first | rfl | exact congrArg (Value.int _) (by omega)) (Sub.cons rfl rfl (Sub.cons rfl rfl (Sub.cons rfl rfl (Sub.cons rfl rfl (Sub.nil _)))))))
  ·
   have hke : k = n := by omega
   subst hke; have hvl : (its.map It.v).length = k := by rw [List.length_map]; exact hn.symm
   rw [List.take_of_length_le (by omega)] at hok2; rw [List.take_of_length_le (by omega)] at S3; have hset := (setB_all (idsV (its.map It.v))).2.2; have hset2 := (setB_all (idsV (its.map It.v))).2.1; rw [ids_len, hvl] at hset hset2; have hall := hok2; refine T_exit (hK4 _ _ (T_seq fun K15 hK15 => T_seq fun K16 hK16 => T_region (L_y (y_move rfl) rfl (L_y (y_lenB (S3.get 1 rfl) Tryz.underlying162 rfl) rfl (L_y (y_move rfl) rfl (L_y (y_len Tryz.underlying48 rfl) rfl (L_y (y_lss rfl rfl) rfl ?_))))))); refine L_nil (hK16 _ _ ?_); refine T_cond rfl (fun h42 => ?_) (fun h42 => ?_)
   ·
    refine T_seq fun K17 hK17 => T_region (L_y (y_assign rfl) rfl (L_y (y_assign rfl) rfl (L_nil (hK17 _ _ (T_ret ?_))))); repeat (first | with_reducible refine up_then ?_ | with_reducible refine up_in ?_)
    refine ret2 rfl rfl rfl ?_; have he : nameE (its.map It.v) = 17 := nameE_17 (nmE_zero hall) (fun q => by have := hset.2 q; omega); exact ⟨_, rfl, S3.like0, .inl ⟨by rw [he]; decide, by rw [he]⟩⟩
   ·
    refine T_skip (hK15 _ _ (T_seq fun K18 hK18 => T_region (L_y (y_move rfl) rfl (L_y (y_assign rfl) rfl (L_y (y_assign rfl) rfl (L_nil (hK18 _ _ (T_ret ?_)))))))); repeat (first | with_reducible refine up_then ?_ | with_reducible refine up_in ?_)
    refine ret2 rfl rfl rfl ?_; have he : nameE (its.map It.v) = 0 := nameE_0 (nmE_zero hall) (hset.1 (by omega)); have hO := S3.own 0 rfl; rw [← hvl] at hO; refine ⟨_, rfl, S3.like0, .inr ⟨he, A1, c1, by rw [hvl], hO⟩⟩
end Go.Proofs.YtgaklngnfecdaaaGreat.Pak
namespace Go.Proofs.YtgaklngnfecdaaaGreat.Pak
open Go.RowKit Zk Zx
open Sha (N xorN andN notN N_ge N_le)
open Go.Proofs.YtgaklngnfecdaaaGreat.Obj (objE objB nameI nameI_len nameI_ok nameI_no zB zB_len rs_tail)
open Oct (vaN rwL rwP rwE rnL rnP rnE be vr tl length_tl)
open Del (scA opf OP OkO mkV encV putR readV aplR)
theorem flat_at {α : Type} (f : α → List Value) (size : Nat) (hlen : ∀ y, (f y).length = size) (l : List α) (k : Nat) (y : α) (h : l[k]? = some y) (i : Nat) (hi : i < size) : (l.flatMap f)[k * size + i]? = (f y)[i]? := by
  rw [← flat_cut f size hlen l k y h, List.getElem?_take, if_pos hi, List.getElem?_drop]
def depV (o : Ob) : Value := .int .i64 (o.dep : Int)
def Ob.v (o : Ob) : IV := (o.kind, o.l)
def Same (its : List It) (os : List Ob) : Prop := its.map It.v = os.map Ob.v
theorem Same.len {its : List It} {os : List Ob} (h : Same its os) : its.length = os.length := by have := congrArg List.length h; simpa using this
theorem Same.at {its : List It} {os : List Ob} (h : Same its os) {k : Nat} {o : Ob} (ho : os[k]? = some o) : ∃ x, its[k]? = some x ∧ x.kind = o.kind ∧ x.p.l = o.l := by
  have h1 : (its.map It.v)[k]? = some o.v := by rw [h, List.getElem?_map, ho]; rfl
  rw [List.getElem?_map] at h1
  cases hx : its[k]? with
  | none => rw [hx] at h1; cases h1
  | some x =>
    rw [hx] at h1
    have h2 : x.v = o.v := Option.some.inj h1
    exact ⟨x, rfl, congrArg Prod.fst h2, congrArg Prod.snd h2⟩
theorem dep_get {os : List Ob} {k : Nat} {o : Ob} (ho : os[k]? = some o) : (os.map depV)[k]? = some (.int .i64 (o.dep : Int)) := by rw [List.getElem?_map, ho]; rfl
open Del (nL nL_app)
theorem nL_snoc (l : List Nat) (k : Nat) (v : Int) (h : v = (k : Int)) : nL l ++ [Value.int .i64 v] = nL (l ++ [k]) := by subst h; simp [nL]
theorem nL_get {l : List Nat} {i k : Nat} (h : l[i]? = some k) : (nL l)[i]? = some (Value.int .i64 (k : Int)) := by unfold nL; rw [List.getElem?_map, h]; rfl
theorem candidates (g : Nat) (x0 x2 : Value) (A1 : Option Addr) (n1 c1 : Nat) (A3 : Option Addr) (n3 c3 : Nat) (its : List It) (os : List Ob) (kind chain : Int) (w0 : World) (hg : Blk w0 g 113 #[x0, .slice A1 n1 c1, x2, .slice A3 n3 c3]) (hits : Rs w0 2 A1 n1 c1 (its.flatMap itf)) (hds : Rs w0 1 A3 n3 c3 (os.map depV)) (hio : Same its os) (hn9 : n1 ≤ 100000) :
    Calls Tryz.prog 120 #[.pointer (some ⟨g, 0, none⟩), .int .i64 kind, .int .i64 chain] w0 fun e w' => ∃ u, e = .returned u ∧ Like w0 w' ∧ ∃ A5 c5, u = .slice A5 (candF os kind chain os.length 0).length c5 ∧ w'.ownsRow w0.heap.size 3 1 (.slice A5 (candF os kind chain os.length 0).length c5) (candF os kind chain os.length 0).length (nL (candF os kind chain os.length 0)) := by
 refine enter1 (env := [(0, .pointer (some ⟨g, 0, none⟩)), (1, .int .i64 kind), (2, .int .i64 chain)]) [.pointer (some ⟨g, 0, none⟩), .int .i64 kind, .int .i64 chain] Tryz.func120 rfl Tryz.ntmps120 rfl rfl ?_; have hn1 := its_len hits; have hsl := hio.len; have hn3 := hds.len; rw [List.length_map] at hn3; have hcap1 := hits.cap; have hcap3 := hds.cap; have hmax1 := hits.max; have hmax3 := hds.max; have S0 := St.start w0 noM; refine T_seq fun K1 hK1 => T_region (L_y (y_assign rfl) rfl (L_nil (hK1 _ _ (T_seq fun K2 hK2 => T_region ?_)))); have S1 := S0.nilrow 3 1; refine L_y (y_assign rfl) rfl (L_nil (hK2 _ _ (T_seq fun K3 hK3 => T_region (L_y (y_assign rfl) rfl (L_nil (hK3 _ _ (T_seq fun K4 hK4 => T_seq fun K5 hK5 => ?_))))))); refine T_region (L_y (y_move rfl) rfl (L_y (y_nilp rfl) rfl (L_y (y_fieldA 1 Tryz.underlying113 rfl sz48 rfl rfl rfl) rfl (L_y (y_ldc Tryz.underlying48 rfl rfl (((S1.rdB hg).cell _).trans (by rfl))) rfl ?_)))); refine L_y (y_len Tryz.underlying48 rfl) rfl (L_y (y_sub rfl rfl (i64w (by omega))) rfl (L_y (y_assign rfl) rfl (L_nil (hK5 _ _ (T_block ?_))))); refine T_loop5 [(0, _), (1, _), (2, _)] (fun (j : Nat) (seen : Nat) (out : List Nat) (A5 : Option Addr) (c5 : Nat) => [(9, .int .i64 ((j : Int) - 1)), (8, .int .i64 (seen : Int)), (7, .slice A5 out.length c5)]) (fun (j : Nat) (seen : Nat) (out : List Nat) (A5 : Option Addr) (c5 : Nat) => j) (fun (j : Nat) (seen : Nat) (out : List Nat) (A5 : Option Addr) (c5 : Nat) (w : World) => (j ≤ os.length ∧ out.length + j ≤ os.length ∧ seen ≤ 4 ∧ out ++ candF os kind chain j seen = candF os kind chain os.length 0) ∧ Zx.St w0 noM [Zx.row 3 1 A5 out.length c5 (nL out)] w) os.length 0 [] none 0 (Sub.cons rfl (by first | rfl | exact congrArg (Value.int _) (by omega)) (Sub.cons rfl (by first | rfl | exact congrArg (Value.int _) (by omega)) (Sub.cons rfl (by first | rfl | exact congrArg (Value.int _) (by omega)) (Sub.nil _)))) (Sub.cons rfl rfl (Sub.cons rfl rfl (Sub.cons rfl rfl (Sub.nil _)))) ?_ ?_
 ·
  exact ⟨⟨Nat.le_refl _, by simp, by omega, rfl⟩, S1⟩
 ·
  intro j seen out A5 c5 w2 hrel; obtain ⟨⟨hj, hol, hsn, hcs⟩, S2⟩ := hrel; refine T_seq fun K6 hK6 => T_seq fun K7 hK7 => T_region (L_y (y_move rfl) rfl (L_y (y_geq rfl rfl) rfl (L_y (y_move rfl) rfl ?_))); refine L_split 18 rfl (fun h18 => ?_) (fun h18 => ?_)
  ·
   refine L_gyes rfl rfl (L_y (y_move rfl) rfl (L_gyes rfl rfl (L_y (y_lss rfl rfl) rfl (L_y ((by first | exact y_pickT rfl rfl | exact y_pickF rfl rfl)) rfl ?_)))); refine L_nil (hK7 _ _ ?_); refine T_cond rfl (fun h21 => ?_) (fun h21 => ?_)
   ·
    obtain ⟨o, ho⟩ : ∃ o, os[j - 1]? = some o := ⟨_, List.getElem?_eq_getElem (by omega)⟩; obtain ⟨x, hx, hxk, hxl⟩ := hio.at ho; refine T_skip (hK6 _ _ (T_seq fun K8 hK8 => T_block (T_seq fun K9 hK9 => T_seq fun K10 hK10 => T_region (L_y (y_move rfl) rfl (L_y (y_nilp rfl) rfl (L_y (y_fieldA 1 Tryz.underlying113 rfl sz48 rfl rfl rfl) rfl ?_)))))); refine L_y (y_ldc Tryz.underlying48 rfl rfl (((S2.rdB hg).cell _).trans (by rfl))) rfl ?_; refine L_y (y_move rfl) rfl (L_y (y_idx Tryz.underlying48 sz65 rfl rfl (S2.rd hits) (Nt.mk (by omega) : Nt _ (j - 1)) (by omega)) rfl (L_y (y_fieldR 0 Tryz.underlying65 rfl sz3 rfl rfl (S2.rd hits) (by omega) rfl) rfl (L_y (y_ldf Tryz.underlying3 rfl rfl (S2.rd hits) (by omega) ((flat_at itf 2 itf_len its (j - 1) x hx 0 (by omega)).trans (by rfl))) rfl ?_))); refine L_y (y_move rfl) rfl (L_y (y_neq rfl rfl) rfl (L_nil (hK10 _ _ ?_))); refine T_cond rfl (fun h33 => ?_) (fun h33 => ?_)
    ·
     refine T_exit (hK8 _ _ (T_region (L_y (y_move rfl) rfl (L_y (y_sub rfl rfl (i64w (by omega))) rfl (L_y (y_assign rfl) rfl (L_nil (⟨j - 1, seen, out, A5, c5, by omega, ⟨⟨by omega, by (first | omega | (rw [List.length_append]; simp only [List.length_singleton]; omega)), by omega, by rw [← hcs, show j = j - 1 + 1 by omega, cand_skip (by omega) (by simpa using ho) (by rw [← hxk]; exact h33)]; simp⟩, S2⟩, ?_⟩))))))); exact (Sub.cons rfl (by first | rfl | exact congrArg (Value.int _) (by omega)) (Sub.cons rfl (by first | rfl | exact congrArg (Value.int _) (by omega)) (Sub.cons rfl (by first | rfl | (rw [List.length_append]; rfl)) (Sub.cons rfl rfl (Sub.cons rfl rfl (Sub.cons rfl rfl (Sub.nil _)))))))
    ·
     refine T_skip (hK9 _ _ (T_seq fun K11 hK11 => T_region (L_y (y_move rfl) rfl (L_y (y_add rfl rfl (i64w (by omega))) rfl (L_y (y_assign rfl) rfl (L_nil (hK11 _ _ (T_seq fun K12 hK12 => ?_)))))))); refine T_region (L_y (y_move rfl) rfl (L_y (y_nilp rfl) rfl (L_y (y_fieldA 3 Tryz.underlying113 rfl sz111 rfl rfl rfl) rfl (L_y (y_ldc Tryz.underlying111 rfl rfl (((S2.rdB hg).cell _).trans (by rfl))) rfl ?_)))); refine L_y (y_move rfl) rfl (L_y (y_idx Tryz.underlying111 sz3 rfl rfl (S2.rd hds) (Nt.mk (by omega) : Nt _ (j - 1)) (by omega)) rfl (L_y (y_ldr Tryz.underlying3 rfl rfl (S2.rd hds) (dep_get ho)) rfl (L_y (y_move rfl) rfl (L_y (y_lss rfl rfl) rfl (L_nil (hK12 _ _ ?_)))))); refine T_cond rfl (fun h44 => ?_) (fun h44 => ?_)
     ·
      refine T_region (L_y (y_move rfl) rfl (L_y (y_move rfl) rfl (L_o (o_bsl [_] te111 zz3 S2 rfl rfl rfl rfl rfl rfl rfl rfl fun b4 w4 S4 => L_o (o_app te111 S4 0 rfl rfl rfl (by first | exact S4.row 0 rfl | exact S4.row 1 rfl) (by first | exact bL_one _ | exact iL_one _ | (intro u hu; simp at hu; subst hu; rfl) | (simp; done) | (simp [Value.oneCell']; done)) rfl (by omega) (by omega) fun A5 c5 w5 S5 => ?_))))); have S5d := S5.drop (rs' := [_]) (.cons_cons _ (.cons _ (.refl _))); refine L_y (y_assign rfl) rfl (L_nil (hK8 _ _ (T_region (L_y (y_move rfl) rfl (L_y (y_sub rfl rfl (i64w (by omega))) rfl (L_y (y_assign rfl) rfl (L_nil ?_))))))); have S91 := S5d.rowc 0 rfl (n' := (out ++ [j - 1]).length) (xs' := nL (out ++ [j - 1])) (by rw [List.length_append]; rfl) (nL_snoc _ _ _ (by omega)); refine ⟨j - 1, seen + 1, out ++ [j - 1], _, _, by omega, ⟨⟨by omega, by (first | omega | (rw [List.length_append]; simp only [List.length_singleton]; omega)), by omega, by rw [← hcs, show j = j - 1 + 1 by omega, cand_yes (by omega) (by simpa using ho) (by rw [← hxk]; exact Classical.not_not.1 h33) (by simpa using h44)]; simp⟩, S91⟩, ?_⟩; exact (Sub.cons rfl (by first | rfl | exact congrArg (Value.int _) (by omega)) (Sub.cons rfl (by first | rfl | exact congrArg (Value.int _) (by omega)) (Sub.cons rfl (by first | rfl | (rw [List.length_append]; rfl)) (Sub.cons rfl rfl (Sub.cons rfl rfl (Sub.cons rfl rfl (Sub.nil _)))))))
     ·
      refine T_skip (hK8 _ _ (T_region (L_y (y_move rfl) rfl (L_y (y_sub rfl rfl (i64w (by omega))) rfl (L_y (y_assign rfl) rfl (L_nil (⟨j - 1, seen + 1, out, A5, c5, by omega, ⟨⟨by omega, by (first | omega | (rw [List.length_append]; simp only [List.length_singleton]; omega)), by omega, by rw [← hcs, show j = j - 1 + 1 by omega, cand_no (by omega) (by simpa using ho) (by rw [← hxk]; exact Classical.not_not.1 h33) (by simpa using h44)]; simp⟩, S2⟩, ?_⟩))))))); exact (Sub.cons rfl (by first | rfl | exact congrArg (Value.int _) (by omega)) (Sub.cons rfl (by first | rfl | exact congrArg (Value.int _) (by omega)) (Sub.cons rfl (by first | rfl | (rw [List.length_append]; rfl)) (Sub.cons rfl rfl (Sub.cons rfl rfl (Sub.cons rfl rfl (Sub.nil _)))))))
   ·
    refine T_exit (hK4 _ _ (T_seq fun K13 hK13 => T_region (L_y (y_move rfl) rfl (L_y (y_assign rfl) rfl (L_nil (hK13 _ _ (T_ret ?_))))))); repeat (first | with_reducible refine up_then ?_ | with_reducible refine up_in ?_)
    refine ret1 rfl rfl ?_; have hce : candF os kind chain j seen = [] := by first | exact cand_full (by omega) | (obtain rfl : j = 0 := (by omega); rfl)
    rw [hce, List.append_nil] at hcs; subst hcs; exact ⟨_, rfl, S2.like0, _, _, rfl, S2.own 0 rfl⟩
  ·
   refine L_gno rfl rfl rfl (L_gno rfl rfl rfl (L_y ((by first | exact y_pickT rfl rfl | exact y_pickF rfl rfl)) rfl ?_)); refine L_nil (hK7 _ _ (T_false rfl (T_exit (hK4 _ _ (T_seq fun K14 hK14 => T_region (L_y (y_move rfl) rfl (L_y (y_assign rfl) rfl (L_nil ?_)))))))); refine hK14 _ _ (T_ret ?_); repeat (first | with_reducible refine up_then ?_ | with_reducible refine up_in ?_)
   refine ret1 rfl rfl ?_; have hce : candF os kind chain j seen = [] := by first | exact cand_full (by omega) | (obtain rfl : j = 0 := (by omega); rfl)
   rw [hce, List.append_nil] at hcs; subst hcs; exact ⟨_, rfl, S2.like0, _, _, rfl, S2.own 0 rfl⟩
end Go.Proofs.YtgaklngnfecdaaaGreat.Pak
namespace Go.Proofs.YtgaklngnfecdaaaGreat.Zx
open Go.RowKit Zk
def apartL (rs : List Res) : Prop := rs.Pairwise fun r s => ∀ i, r.dom i → ¬ s.dom i
def sepL (rs : List Res) : Res where
  dom i := ∃ r ∈ rs, r.dom i
  holds w := (∀ r ∈ rs, r.holds w ∧ ∀ i, r.dom i → i < w.heap.size) ∧ apartL rs
  stable w w' h hh := ⟨fun r hr => ⟨r.stable w w' (fun i hi => h i ⟨r, hr, hi⟩) (hh.1 r hr).1, fun i hi => by
    have h1 := (hh.1 r hr).2 i hi
    have h2 := h i ⟨r, hr, hi⟩
    rw [Array.getElem?_eq_getElem h1] at h2
    exact (Array.getElem?_eq_some_iff.1 h2).1⟩, hh.2⟩
section
variable {w0 w w' : World} {M : Nat → Prop} {rs ps rs' : List Res}
theorem St.borrowL (h : (sepL rs).holds w) : St w (sepL rs).dom rs w :=
  ⟨rfl, rfl, rfl, Nat.le_refl _, fun _ _ _ => rfl, fun q hq => ⟨(h.1 q hq).1, fun i hi => ⟨(h.1 q hq).2 i hi, .inr ⟨q, hq, hi⟩⟩⟩, h.2⟩
theorem St.getL (S : St w0 M (ps ++ rs) w) : (sepL rs).holds w :=
  ⟨fun r hr => ⟨(S.res r (List.mem_append_right _ hr)).1, fun i hi => ((S.res r (List.mem_append_right _ hr)).2 i hi).1⟩, (List.pairwise_append.1 S.apart).2.1⟩
theorem St.turnedL {r0 : List Res} (S : St w0 (sepL r0).dom rs w) : Turned w0 w (sepL r0) (sepL rs) :=
  ⟨S.os, S.tape, S.output, S.size, S.old, St.getL (ps := []) S, fun i ⟨r, hr, hi⟩ => by
    have h := (S.res r hr).2 i hi
    rcases h.2 with h2 | h2
    · exact .inr ⟨h2, h.1⟩
    · exact .inl h2⟩
theorem St.turnL (S : St w0 M (ps ++ rs) w) (T : Turned w w' (sepL rs) (sepL rs')) : St w0 M (ps ++ rs') w' := by
  have hap := List.pairwise_append.1 S.apart
  refine ⟨T.os.trans S.os, T.tape.trans S.tape, T.output.trans S.output, Nat.le_trans S.size T.size, fun i hi hm => ?_, fun q hq => ?_, ?_⟩
  · rw [T.old i (Nat.lt_of_lt_of_le hi S.size) fun ⟨r, hr, hd⟩ => by
      rcases ((S.res r (List.mem_append_right _ hr)).2 i hd).2 with h | h
      · omega
      · exact hm h]
    exact S.old i hi hm
  · rcases List.mem_append.1 hq with hq | hq
    · have h := S.res q (List.mem_append_left _ hq)
      refine ⟨q.stable w w' (fun i hi => T.old i (h.2 i hi).1 fun ⟨r, hr, hd⟩ => hap.2.2 q hq r hr i hi hd) h.1, fun i hi => ⟨Nat.lt_of_lt_of_le (h.2 i hi).1 T.size, (h.2 i hi).2⟩⟩
    · have h := T.holds.1 q hq
      refine ⟨h.1, fun i hi => ⟨h.2 i hi, ?_⟩⟩
      rcases T.dom i ⟨q, hq, hi⟩ with ⟨r, hr, hd⟩ | h2
      · exact ((S.res r (List.mem_append_right _ hr)).2 i hd).2
      · exact .inl (Nat.le_trans S.size h2.1)
  · rw [List.pairwise_append]
    refine ⟨hap.1, T.holds.2, fun a ha b hb i hi hbi => ?_⟩
    rcases T.dom i ⟨b, hb, hbi⟩ with ⟨r, hr, hd⟩ | h2
    · exact hap.2.2 a ha r hr i hi hd
    · have := ((S.res a (List.mem_append_left _ ha)).2 i hi).1
      omega
theorem St.getAll (S : St w0 M rs w) : (sepL rs).holds w := St.getL (ps := []) S
end
end Go.Proofs.YtgaklngnfecdaaaGreat.Zx
namespace Go.Proofs.YtgaklngnfecdaaaGreat.Del
open Go.RowKit Zk Zx
theorem pmakeH (A B : Option Addr) (n c m d : Nat) (a t : List UInt8) (w0 : World) (ha : Rs w0 1 A n c (bL a)) (ht : Rs w0 1 B m d (bL t)) (hmx : n ≤ 4000) (hmt : m ≤ 4000) :
    Calls Tryz.prog 121 #[.slice A n c, .slice B m d] w0 fun e w' => ∃ u, e = .returned u ∧ Like w0 w' ∧ ∃ A' c' ops, ∃ R : Res, u = .tuple #[.agg (scA (n : Int) (m : Int) A' ops.length c'), .int .i64 0] ∧ R.holds w' ∧ (∀ i, R.dom i → w0.heap.size ≤ i ∧ i < w'.heap.size) ∧ (∀ W, R.holds W → Rs W 4 A' ops.length c' (ops.flatMap opf) ∧ OkO W ops) ∧ ops.map OP.v = mkV a t := by
 refine enter1 (env := [(0, .slice A n c), (1, .slice B m d)]) [.slice A n c, .slice B m d] Tryz.func121 rfl Tryz.ntmps121 rfl rfl ?_; have hn := ha.lenb; have hcap := ha.cap; have hmax := ha.max; have hmn := ht.lenb; have hcap2 := ht.cap; have hmax2 := ht.max; have S0 := St.start w0 noM; refine T_seq fun K1 hK1 => T_region (L_o (o_box1 rfl rfl S0 rfl fun b1 w1 hb1 S1 => L_o (o_alloc zz179 S1 rfl fun b2 w2 hb2 S2 => L_y (y_assign rfl) rfl (L_nil (hK1 _ _ (T_seq fun K2 hK2 => T_seq fun K3 hK3 => T_region ?_)))))); refine L_y (y_move rfl) rfl (L_y (y_len Tryz.underlying22 rfl) rfl (L_y (y_gtr rfl rfl) rfl (L_y (y_move rfl) rfl ?_))); refine L_split 16 rfl (fun h16 => ?_) (fun h16 => ?_)
 ·
  omega
 ·
  refine L_gyes rfl rfl (L_y (y_ldc Tryz.underlying22 rfl rfl (((S2.blk 0 rfl).cell _).trans (by rfl))) rfl ?_); refine L_gyes rfl rfl (L_y (y_len Tryz.underlying22 rfl) rfl (L_gyes rfl rfl (L_y (y_gtr rfl rfl) rfl (L_y ((by first | exact y_pickT rfl rfl | exact y_pickF rfl rfl)) rfl ?_)))); refine L_nil (hK3 _ _ ?_); refine T_cond rfl (fun h20 => ?_) (fun h20 => ?_)
  ·
   omega
  ·
   refine T_skip (hK2 _ _ (T_seq fun K4 hK4 => T_region (L_y (y_move rfl) rfl (L_y (y_len Tryz.underlying22 rfl) rfl (L_y (y_ldc Tryz.underlying22 rfl rfl (((S2.blk 0 rfl).cell _).trans (by rfl))) rfl ?_))))); refine L_y (y_len Tryz.underlying22 rfl) rfl (L_y (y_build rfl (show _ = some (scA (n : Int) (m : Int) none 0 0) by kernel_rfl)) rfl ?_); refine L_o (o_alloc zz179 S2 rfl fun b4 w4 hb4 S4 => L_o (o_stW S4 2 rfl rfl rfl sz179 rfl (scA_one _ _ _ _ _) fun w5 S5 => L_nil (hK4 _ _ (T_seq fun K5 hK5 => T_region (L_y (y_move rfl) rfl (L_o (o_call Tryz.func161 rfl rfl (places A n c a w5 (S5.rd ha) hmx) rfl rfl ?_))))))); rintro e6 w6 ⟨v6, rfl, l6, bm, pes, rfl, hpi, T6⟩; refine ⟨_, rfl, ?_⟩; have S6 := S5.adoptS T6; refine L_y (y_assign rfl) rfl (L_nil (hK5 _ _ (T_seq fun K6 hK6 => T_region (L_o (o_alloc zz3 S6 rfl fun b7 w7 hb7 S7 => L_o (o_st1 S7 5 rfl rfl rfl rfl sz3 (by first | (simp; done) | (show 0 < 1; decide)) fun w8 S8 => ?_)))))); refine L_nil (hK6 _ _ (T_seq fun K7 hK7 => T_region (L_y (y_makeFunc rfl rfl) rfl (L_y (y_assign rfl) rfl (L_nil (hK7 _ _ (T_seq fun K8 hK8 => T_seq fun K9 hK9 => ?_))))))); refine T_region (L_y (y_assign rfl) rfl (L_nil (hK9 _ _ (T_block ?_)))); refine T_loop6 [(0, _), (3, _), (4, _), (6, _), (7, _), (8, _), (9, _)] (fun (k : Nat) (s0 : Nat) (A1 : Option Addr) (c1 : Nat) (ops : List OP) (ps : List Part) => [(10, .int .i64 (k : Int))]) (fun (k : Nat) (s0 : Nat) (A1 : Option Addr) (c1 : Nat) (ops : List OP) (ps : List Part) => m - k) (fun (k : Nat) (s0 : Nat) (A1 : Option Addr) (c1 : Nat) (ops : List OP) (ps : List Part) (w : World) => (k ≤ m ∧ s0 ≤ k ∧ ops.length ≤ 2 * k ∧ InP ops ps ∧ MKI a t k s0 ops) ∧ St w0 noM ([blk b1 22 #[.slice B m d], blk b2 179 #[.int .i64 0, .int .i64 0, .slice none 0 0], mapB 6 bm (pes.map PE.ent), fam (pes.map PE.row), blk b7 3 #[.int .i64 (s0 : Int)]] ++ [blk b4 179 (scA (n : Int) (m : Int) A1 ops.length c1), row 221 4 A1 ops.length c1 (ops.flatMap opf), fam (ps.map partR)]) w) 0 0 none 0 [] [] (Sub.cons rfl (by first | rfl | exact congrArg (Value.int _) (by omega)) (Sub.nil _)) (Sub.cons rfl rfl (Sub.cons rfl rfl (Sub.cons rfl rfl (Sub.cons rfl rfl (Sub.cons rfl rfl (Sub.cons rfl rfl (Sub.cons rfl rfl (Sub.nil _)))))))) ?_ ?_
   ·
    have S9 := ((S8.nilrow 221 4).fam0).sel [0, 1, 3, 4, 5, 2, 6, 7] (by decide); exact ⟨⟨Nat.zero_le _, Nat.le_refl _, Nat.le_refl _, (fun o ho => (List.not_mem_nil ho).elim), MKI.start a t⟩, S9⟩
   ·
    intro k s0 A1 c1 ops ps w9 hrel; obtain ⟨⟨hk, hsk, hol, hin, hmk⟩, S9⟩ := hrel; refine T_seq fun K10 hK10 => T_seq fun K11 hK11 => T_region (L_y (y_move rfl) rfl (L_y (y_ldc Tryz.underlying22 rfl rfl (((S9.blk 0 rfl).cell _).trans (by rfl))) rfl ?_)); refine L_y (y_len Tryz.underlying22 rfl) rfl (L_y (y_lss rfl rfl) rfl (L_nil (hK11 _ _ ?_))); refine T_cond rfl (fun h33 => ?_) (fun h33 => ?_)
    ·
     have hbd := bst_bd a (t.drop k); rw [List.length_drop] at hbd; refine T_skip (hK10 _ _ (T_block (T_seq fun K12 hK12 => T_region (L_y (y_move rfl) rfl (L_y (y_move rfl) rfl (L_y (y_ldc Tryz.underlying22 rfl rfl (((S9.blk 0 rfl).cell _).trans (by rfl))) rfl ?_)))))); refine L_y (y_move rfl) rfl (L_y (y_sliceL Tryz.underlying22 sz5 rfl rfl (Nt.mk (by omega) : Nt _ (k)) (by omega)) rfl (L_o (o_call Tryz.func163 rfl rfl (longest A (cutA B d k 1) n c (m - k) (d - k) bm a (t.drop k) pes w9 (S9.rd ha) (cut_tail (S9.rd ht) (by omega)) hmx (by omega) (S9.get 2 rfl) (S9.lt 2 rfl) (S9.get 3 rfl) hpi) rfl rfl ?_))); rintro e10 w10 ⟨v10, rfl, l10, rfl⟩; refine ⟨_, rfl, ?_⟩; have S10 := S9.like l10; refine L_y (y_move rfl) rfl (L_y (y_extract rfl rfl) rfl (L_y (y_extract rfl rfl) rfl (L_y (y_assign rfl) rfl (L_y (y_assign rfl) rfl (L_nil (hK12 _ _ (T_seq fun K13 hK13 => T_seq fun K14 hK14 => T_region ?_))))))); refine L_y (y_move rfl) rfl (L_y (y_eql rfl rfl) rfl (L_nil (hK14 _ _ ?_))); refine T_cond rfl (fun h44 => ?_) (fun h44 => ?_)
     ·
      refine T_seq fun K15 hK15 => T_region (L_y (y_move rfl) rfl (L_y (y_add rfl rfl (i64w (by omega))) rfl (L_y (y_assign rfl) rfl (L_nil (hK15 _ _ (T_exit (⟨k + 1, s0, A1, c1, ops, ps, by omega, ⟨⟨by omega, by omega, by omega, hin, hmk.zero (by omega) (by omega)⟩, S10⟩, ?_⟩))))))); exact (Sub.cons rfl (by first | rfl | exact congrArg (Value.int _) (by omega)) (Sub.cons rfl rfl (Sub.cons rfl rfl (Sub.cons rfl rfl (Sub.cons rfl rfl (Sub.cons rfl rfl (Sub.cons rfl rfl (Sub.cons rfl rfl (Sub.nil _)))))))))
     ·
      refine T_skip (hK13 _ _ (T_seq fun K16 hK16 => T_region (L_y (y_move rfl) rfl (L_y (y_move rfl) rfl (L_o (o_callv rfl Tryz.func162 rfl rfl (flush k s0 b7 b4 b1 (n : Int) (m : Int) A1 B c1 m d ops ps t w10 (holdScr S10).1 (holdScr S10).2.1 (S10.blk 4 rfl) ((holdScr S10).2.2.1 (blk b7 3 #[.int .i64 (s0 : Int)]) (by simp) b7 rfl) (S10.blk 0 rfl) ((holdScr S10).2.2.1 (blk b1 22 #[.slice B m d]) (by simp) b1 rfl) (S10.rd ht) (fun ad h1 h2 => (holdScr S10).2.2.2 ad.block (old_block ht h1 h2) (fun h => h)) hmt (by omega) hin (by omega)) rfl rfl (fun d' hd => by cases hd <;> rfl) ?_)))))); rintro e11 w11 ⟨v11, rfl, A2, c2, ops2, ps2, hov, hol2, hin2, T11⟩; refine ⟨_, rfl, ?_⟩; have S11 := flushScr S10 T11; have hrc2 := (S11.row 6 rfl).cap; have hrm2 := (S11.row 6 rfl).max; refine L_nil (hK16 _ _ (T_seq fun K17 hK17 => T_region (L_y (y_fieldA 2 Tryz.underlying179 rfl sz177 rfl rfl rfl) rfl (L_y (y_ldc Tryz.underlying177 rfl rfl (((S11.blk 5 rfl).cell _).trans (by rfl))) rfl ?_)))); refine L_y (y_move rfl) rfl (L_y (y_move rfl) rfl (L_y (y_build rfl (show _ = some #[Value.bool true, Value.int .i64 ((bst a (t.drop k)).1 : Int), Value.int .i64 ((bst a (t.drop k)).2 : Int), Value.slice none 0 0] by kernel_rfl)) rfl ?_)); refine L_o (o_bsl [_, _, _, _] te177 zz221 S11 rfl rfl rfl rfl rfl rfl rfl rfl fun b12 w12 S12 => L_o (o_app te177 S12 6 rfl rfl rfl (by first | exact S12.row 6 rfl | exact S12.fix 7 rfl | exact S12.row 8 rfl) (fun u hu => opf_one ⟨true, _, _, p0⟩ u hu) rfl (by omega) (by omega) fun A13 c13 w13 S13 => ?_)); have S13d := S13.drop (rs' := [_, _, _, _, _, _, _, _]) (.cons_cons _ (.cons_cons _ (.cons_cons _ (.cons_cons _ (.cons_cons _ (.cons_cons _ (.cons_cons _ (.cons_cons _ (.cons _ (.refl _)))))))))); refine L_y (y_fieldA 2 Tryz.underlying179 rfl sz177 rfl rfl rfl) rfl (L_o (o_st1 S13d 5 rfl rfl rfl rfl sz177 (by show 2 < 3; decide) fun w14 S14 => ?_)); refine L_nil (hK17 _ _ (T_seq fun K18 hK18 => T_region (L_y (y_move rfl) rfl (L_y (y_move rfl) rfl (L_y (y_add rfl rfl (i64w (by omega))) rfl (L_y (y_assign rfl) rfl (L_nil (hK18 _ _ ?_)))))))); refine T_region (L_y (y_move rfl) rfl (L_o (o_st1 S14 4 rfl rfl rfl rfl sz3 (by first | (simp; done) | (show 0 < 1; decide)) fun w15 S15 => ?_))); refine L_nil ?_; have S91 := S15.blkc 5 rfl ((scA_set (n : Int) (m : Int) A2 ops2.length c2 A13 (ops2.length + 1) c13).trans (show _ = scA (n : Int) (m : Int) A13 (ops2 ++ [(⟨true, ((bst a (t.drop k)).1 : Int), ((bst a (t.drop k)).2 : Int), p0⟩ : OP)]).length c13 from by rw [List.length_append]; rfl)); have S92 := S91.blkc 4 rfl (show _ = #[Value.int .i64 ((k + (bst a (t.drop k)).2 : Nat) : Int)] from by simp); have S93 := S92.rowc 6 rfl (n' := (ops2 ++ [(⟨true, ((bst a (t.drop k)).1 : Int), ((bst a (t.drop k)).2 : Int), p0⟩ : OP)]).length) (xs' := (ops2 ++ [(⟨true, ((bst a (t.drop k)).1 : Int), ((bst a (t.drop k)).2 : Int), p0⟩ : OP)]).flatMap opf) (by rw [List.length_append]; rfl) (by rw [List.flatMap_append]; rfl); refine ⟨k + (bst a (t.drop k)).2, k + (bst a (t.drop k)).2, A13, c13, ops2 ++ [(⟨true, ((bst a (t.drop k)).1 : Int), ((bst a (t.drop k)).2 : Int), p0⟩ : OP)], ps2, by omega, ⟨⟨by omega, Nat.le_refl _, by rw [List.length_append, List.length_singleton]; omega, hin2.add0 rfl, hmk.copy (by omega) (by omega) (by rw [List.map_append, hov]; rfl)⟩, S93⟩, ?_⟩
      exact (Sub.cons rfl (by first | rfl | exact congrArg (Value.int _) (by omega)) (Sub.cons rfl rfl (Sub.cons rfl rfl (Sub.cons rfl rfl (Sub.cons rfl rfl (Sub.cons rfl rfl (Sub.cons rfl rfl (Sub.cons rfl rfl (Sub.nil _)))))))))
    ·
     refine T_exit (hK8 _ _ (T_seq fun K19 hK19 => T_region (L_y (y_move rfl) rfl (L_y (y_ldc Tryz.underlying22 rfl rfl (((S9.blk 0 rfl).cell _).trans (by rfl))) rfl ?_)))); refine L_y (y_len Tryz.underlying22 rfl) rfl (L_o (o_callv rfl Tryz.func162 rfl rfl (flush m s0 b7 b4 b1 (n : Int) (m : Int) A1 B c1 m d ops ps t w9 (holdScr S9).1 (holdScr S9).2.1 (S9.blk 4 rfl) ((holdScr S9).2.2.1 (blk b7 3 #[.int .i64 (s0 : Int)]) (by simp) b7 rfl) (S9.blk 0 rfl) ((holdScr S9).2.2.1 (blk b1 22 #[.slice B m d]) (by simp) b1 rfl) (S9.rd ht) (fun ad h1 h2 => (holdScr S9).2.2.2 ad.block (old_block ht h1 h2) (fun h => h)) hmt (by omega) hin (by omega)) rfl rfl (fun d' hd => by cases hd <;> rfl) ?_)); rintro e16 w16 ⟨v16, rfl, A2, c2, ops2, ps2, hov, hol2, hin2, T16⟩; refine ⟨_, rfl, ?_⟩; have S16 := flushScr S9 T16; refine L_nil (hK19 _ _ (T_seq fun K20 hK20 => T_region (L_y (y_ldW Tryz.underlying179 rfl sz179 rfl (S16.blk 5 rfl) (show _ = (scA (n : Int) (m : Int) A2 ops2.length c2).toList ∧ _ from ⟨rfl, rfl⟩)) rfl (L_o (o_stW S16 1 rfl rfl rfl sz179 rfl (scA_one _ _ _ _ _) fun w17 S17 => L_y (y_assign rfl) rfl (L_nil (hK20 _ _ (T_ret ?_)))))))); repeat (first | with_reducible refine up_then ?_ | with_reducible refine up_in ?_)
     refine retct rfl rfl rfl (S17.blk 1 rfl) Tryz.underlying179 rfl (by exact sz179) ?_; have S18 : Zx.St w0 noM [row 221 4 A2 ops2.length c2 (ops2.flatMap opf), fam (ps2.map partR)] w17 := S17.sel [6, 7] (by decide); exact ⟨_, rfl, S17.like0, A2, c2, ops2, sepL [row 221 4 A2 ops2.length c2 (ops2.flatMap opf), fam (ps2.map partR)], rfl, S18.getAll, (fun i hi => by obtain ⟨r, hr, hd⟩ := hi; have h := (S18.res r hr).2 i hd; exact ⟨h.2.resolve_right (fun q => q), h.1⟩), (fun W h => ⟨rs_of_row (h.1 (row 221 4 A2 ops2.length c2 (ops2.flatMap opf)) (List.mem_cons_self ..)).1, okO_of hin2 (h.1 (fam (ps2.map partR)) (List.mem_cons_of_mem _ (List.mem_cons_self ..))).1⟩), hmk.done (by omega) (by rw [hmn]; exact hov)⟩
end Go.Proofs.YtgaklngnfecdaaaGreat.Del
namespace Go.Proofs.YtgaklngnfecdaaaGreat.Pak
open Go.RowKit Zk Zx
open Sha (N xorN andN notN N_ge N_le)
open Go.Proofs.YtgaklngnfecdaaaGreat.Obj (objE objB nameI nameI_len nameI_ok nameI_no zB zB_len rs_tail)
open Oct (vaN rwL rwP rwE rnL rnP rnE be vr tl length_tl)
open Del (scA opf OP OkO mkV encV putR readV aplR)
open Del (nL nL_app)
structure QOk (w0 w : World) (p : Part) (r : Int × List UInt8) (q : Part) : Prop where
  ok : q.ok w
  val : q.l = r.2
  src : (r.1 = -1 ∧ q = p) ∨ (0 ≤ r.1 ∧ ∀ ad, 0 < q.n → q.A = some ad → w0.heap.size ≤ ad.block)
theorem QOk.like {w0 w w' : World} {p : Part} {r : Int × List UInt8} {q : Part} (h : QOk w0 w p r q) (l : Like w w') : QOk w0 w' p r q := ⟨Rs.like h.ok l, h.val, h.src⟩
theorem sh_next {os : List Ob} {x : List UInt8} {ks : List Nat} {i k : Nat} {r : Int × List UInt8} (hk : ks[i]? = some k) : shF os x (ks.take (i + 1)) r = stepS os x (shF os x (ks.take i) r) k := by
  unfold shF
  rw [List.take_add_one, hk, List.foldl_append]
  rfl
def ShortV (w0 w' : World) (p : Part) (r : Int × List UInt8) (u : Value) : Prop := ∃ q : Part, u = .tuple #[.int .i64 r.1, pv q] ∧ QOk w0 w' p r q
theorem shortest (g : Nat) (x0 x2 : Value) (A1 : Option Addr) (n1 c1 : Nat) (A3 : Option Addr) (n3 c3 : Nat) (its : List It) (os : List Ob) (kind chain : Int) (p : Part) (w0 : World) (hg : Blk w0 g 113 #[x0, .slice A1 n1 c1, x2, .slice A3 n3 c3]) (hits : Rs w0 2 A1 n1 c1 (its.flatMap itf)) (hds : Rs w0 1 A3 n3 c3 (os.map depV)) (hio : Same its os) (hn9 : n1 ≤ 100000) (hok : OkI w0 its) (hsm : ∀ x ∈ its, x.p.n ≤ 300) (hp : p.ok w0) (hp3 : p.n ≤ 300) :
    Calls Tryz.prog 90 #[.pointer (some ⟨g, 0, none⟩), .agg #[.int .i64 kind, pv p], .int .i64 chain] w0 fun e w' => ∃ u, e = .returned u ∧ Like w0 w' ∧ ShortV w0 w' p (toldV os chain kind p.l) u := by
 refine enter1 (env := [(0, .pointer (some ⟨g, 0, none⟩)), (1, .agg #[.int .i64 kind, pv p]), (2, .int .i64 chain)]) [.pointer (some ⟨g, 0, none⟩), .agg #[.int .i64 kind, pv p], .int .i64 chain] Tryz.func90 rfl Tryz.ntmps90 rfl rfl ?_; have hn1 := its_len hits; have hsl := hio.len; have hn3 := hds.len; rw [List.length_map] at hn3; have hcap1 := hits.cap; have hcap3 := hds.cap; have hmax1 := hits.max; have hmax3 := hds.max; have S0 := St.start w0 noM; refine T_seq fun K1 hK1 => T_region (L_o (o_box rfl S0 rfl fun b1 w1 hb1 S1 => L_y (y_assign rfl) rfl (L_y (y_assign rfl) rfl (L_nil (hK1 _ _ (T_seq fun K2 hK2 => T_drawnL [(0, true), (1, true), (2, true), (3, true)] hmix (by kernel_rfl) fun w2 l2 => ?_)))))); have S2 := S1.like l2; refine DL_y rfl (y_fieldA 1 Tryz.underlying65 rfl sz22 rfl rfl rfl) rfl (DL_y rfl (y_ldc Tryz.underlying22 rfl rfl (((S2.blk 0 rfl).cell _).trans (by rfl))) rfl ?_); refine DL_y rfl (y_assign rfl) rfl (DL_y rfl (y_assign rfl) rfl (DL_nil (hK2 _ _ (T_seq fun K3 hK3 => T_seq fun K4 hK4 => T_region (L_y (y_move rfl) rfl (L_y (y_fieldA 0 Tryz.underlying65 rfl sz3 rfl rfl rfl) rfl (L_y (y_ldc Tryz.underlying3 rfl rfl (((S2.blk 0 rfl).cell _).trans (by rfl))) rfl ?_))))))); refine L_y (y_move rfl) rfl (L_o (o_call Tryz.func120 rfl rfl (candidates g x0 x2 A1 n1 c1 A3 n3 c3 its os kind chain w2 (S2.rdB hg) (S2.rd hits) (S2.rd hds) hio (by omega)) rfl rfl ?_)); rintro e3 w3 ⟨v3, rfl, l3, A3, c3, rfl, O3⟩; refine ⟨_, rfl, ?_⟩; have S3 := S2.adopt l3 O3; have hc0 := S3.row 1 rfl; have hlk0 : Like w0 w3 := S3.like0; refine L_y (y_len Tryz.underlying111 rfl) rfl (L_y (y_move rfl) rfl (L_nil (hK4 _ _ (T_block ?_)))); refine T_loop3 [(0, _), (4, _), (22, _), (23, _)] (fun (i : Nat) (r : Int × List UInt8) (q : Part) => [(24, .int .i64 (i : Int)), (8, .int .i64 r.1), (9, pv q)]) (fun (i : Nat) (r : Int × List UInt8) (q : Part) => (candF os kind chain os.length 0).length - i) (fun (i : Nat) (r : Int × List UInt8) (q : Part) (w : World) => (i ≤ (candF os kind chain os.length 0).length ∧ r = (shF os p.l ((candF os kind chain os.length 0).take i) (-1, p.l))) ∧ Like w0 w ∧ Rs w 1 A3 (candF os kind chain os.length 0).length c3 (nL (candF os kind chain os.length 0)) ∧ QOk w0 w p r q ∧ Blk w b1 65 #[.int .i64 kind, pv p]) 0 (-1, p.l) p (Sub.cons rfl (by first | rfl | exact congrArg (Value.int _) (by omega)) (Sub.cons rfl (by first | rfl | exact congrArg (Value.int _) (by omega)) (Sub.cons rfl (by first | rfl | exact congrArg (Value.int _) (by omega)) (Sub.nil _)))) (Sub.cons rfl rfl (Sub.cons rfl rfl (Sub.cons rfl rfl (Sub.cons rfl rfl (Sub.nil _))))) ?_ ?_
 ·
  exact ⟨⟨by omega, rfl⟩, hlk0, hc0, ⟨S3.rd hp, rfl, .inl ⟨rfl, rfl⟩⟩, S3.blk 0 rfl⟩
 ·
  intro i r q w4 hrel; obtain ⟨⟨hi, hr⟩, hlk, hc, hq, hb1⟩ := hrel; subst hr; have S4 := St.start w4 noM; have hsz1 := hlk.size; refine T_seq fun K5 hK5 => T_region (L_y (y_lss rfl rfl) rfl (L_nil (hK5 _ _ (T_seq fun K6 hK6 => ?_)))); refine T_cond rfl (fun h25 => ?_) (fun h25 => ?_)
  ·
   obtain ⟨k, hk⟩ : ∃ k, (candF os kind chain os.length 0)[i]? = some k := ⟨_, List.getElem?_eq_getElem (by omega)⟩; obtain ⟨hko, o, ho, _, _⟩ := cand_lt _ _ k (List.mem_of_getElem? hk); obtain ⟨x, hx, hxk, hxl⟩ := hio.at ho; have hxo : x.p.ok w0 := hok.at hx; have hxs := hsm x (List.mem_of_getElem? hx); have hcc := hc.cap; have hcm := hc.max; have hxb := hxo.lenb; have hpb := hp.lenb; have hql := hq.ok.lenb; refine T_skip (hK6 _ _ (T_seq fun K7 hK7 => T_block (T_seq fun K8 hK8 => T_region (L_y (y_idx Tryz.underlying111 sz3 rfl rfl (S4.rd hc) inferInstance (by omega)) rfl (L_y (y_ldr Tryz.underlying3 rfl rfl (S4.rd hc) (nL_get hk)) rfl (L_y (y_assign rfl) rfl (L_nil ?_))))))); refine hK8 _ _ (T_seq fun K9 hK9 => T_drawnX (fun w => Like w4 w) hmix (by kernel_rfl) (fun w l => (S4.like l).like0) fun w5 l5 => ?_); have S5 := S4.like l5; refine DX_y 0 (by kernel_rfl) rfl (y_move rfl) rfl (DX_y 1 (by kernel_rfl) rfl (y_nilp rfl) rfl (DX_y 2 (by kernel_rfl) rfl (y_fieldA 1 Tryz.underlying113 rfl sz48 rfl rfl rfl) rfl (DX_y 3 (by kernel_rfl) rfl (y_of fun w hw => y_ldc Tryz.underlying48 rfl rfl (((hg.below (hlk.trans hw) hg.lt).cell _).trans (by rfl))) rfl ?_))); refine DX_y 4 (by kernel_rfl) rfl (y_move rfl) rfl (DX_y 5 (by kernel_rfl) rfl (y_idx Tryz.underlying48 sz65 rfl rfl (hits.like (hlk.trans S5.like0)) inferInstance (by omega)) rfl (DX_y 6 (by kernel_rfl) rfl (y_fieldR 1 Tryz.underlying65 rfl sz22 rfl rfl (hits.like (hlk.trans S5.like0)) (by omega) rfl) rfl (DX_y 7 (by kernel_rfl) rfl (y_of fun w hw => y_ldf Tryz.underlying22 rfl rfl (hits.like (hlk.trans hw)) (by omega) ((flat_at itf 2 itf_len its k x hx 1 (by omega)).trans (by rfl))) rfl ?_))); refine DX_y 8 (by kernel_rfl) rfl (y_fieldA 1 Tryz.underlying65 rfl sz22 rfl rfl rfl) rfl (DX_y 9 (by kernel_rfl) rfl (y_of fun w hw => y_ldc Tryz.underlying22 rfl rfl (((hb1.below hw hb1.lt).cell _).trans (by rfl))) rfl ?_); refine DX_o2 10 14 (by kernel_rfl) rfl rfl ?_ ?_
   ·
    refine o_call Tryz.func121 rfl rfl (Del.pmakeH _ _ _ _ _ _ x.p.l p.l w5 (Rs.like hxo (hlk.trans S5.like0)) (Rs.like hp (hlk.trans S5.like0)) (by omega) (by omega)) rfl rfl ?_; rintro e6 w6 ⟨v6, rfl, l6, A6, c6, ops6, R6, rfl, hh6, dd6, hr6, hv6⟩; refine ⟨_, rfl, ?_⟩; have S6 := S5.new l6 _ hh6 dd6; refine ⟨S6.like0, (DX_y 11 (by kernel_rfl) rfl (y_move rfl) rfl (DX_y 12 (by kernel_rfl) rfl (y_extract rfl rfl) rfl (DX_y 13 (by kernel_rfl) rfl (y_extract rfl rfl) rfl (DX_o1 14 (by kernel_rfl) rfl (o_alloc zz179 S6 rfl fun b7 w7 hb7 S7 => ⟨S7.like0, (DX_o1 15 (by kernel_rfl) rfl (o_stW S7 1 rfl rfl rfl sz179 (by rfl) (by intro u hu; simp [scA] at hu; rcases hu with rfl | rfl | rfl <;> rfl) fun w8 S8 => ?_))⟩)))))⟩; refine ⟨S8.like0, (DX_y 16 (by kernel_rfl) rfl (y_assign rfl) rfl (DX_nil (by kernel_rfl) (hK9 _ _ (T_seq fun K10 hK10 => T_seq fun K11 hK11 => T_region (L_y (y_move rfl) rfl (L_y (y_neq rfl rfl) rfl (L_nil ?_)))))))⟩; refine hK11 _ _ ?_; refine T_cond rfl (fun h43 => ?_) (fun h43 => ?_)
    ·
     exact absurd rfl h43
    ·
     refine T_skip (hK10 _ _ (T_seq fun K12 hK12 => T_region (L_y (y_ldW Tryz.underlying179 rfl sz179 rfl (S8.blk 1 rfl) (show _ = (scA (x.p.n : Int) (p.n : Int) _ _ _).toList ∧ _ from ⟨rfl, rfl⟩)) rfl (L_o (o_call Tryz.func122 rfl rfl (Del.pputM (x := x.p.l) (y := p.l) (by omega) (by omega) A6 c6 ops6 _ _ w8 (hr6 _ (S8.get 0 rfl)).1 (hr6 _ (S8.get 0 rfl)).2 hv6 (by omega) (by omega)) rfl rfl ?_))))); rintro e9 w9 ⟨v9, rfl, l9, A9, c9, rfl, O9⟩; refine ⟨_, rfl, ?_⟩; have S9 := S8.adopt l9 O9; have hlk3 : Like w4 w9 := S9.like0; have hd9 : Rs w9 1 A9 (scB x.p.l p.l).length c9 (bL (scB x.p.l p.l)) := S9.row 2 rfl; have hf9 := (Fr.of_own (S9.own 2 rfl)).2; have hb4 := hb1.below hlk3 hb1.lt; have hlk4 := hlk.trans hlk3; have hc4 := hc.like hlk3; have hq4 := hq.like hlk3; have hsz9 := hlk.size; refine L_y (y_move rfl) rfl (L_y (y_extract rfl rfl) rfl (L_y (y_extract rfl rfl) rfl (L_y (y_assign rfl) rfl (L_y (y_assign rfl) rfl (L_nil (hK12 _ _ (T_seq fun K13 hK13 => T_region (L_y (y_move rfl) rfl ?_)))))))); refine L_y (y_eql rfl rfl) rfl (L_y (y_move rfl) rfl ?_); refine L_split 51 rfl (fun h51 => ?_) (fun h51 => ?_)
     ·
      refine L_gyes rfl rfl (L_y (y_move rfl) rfl (L_gyes rfl rfl (L_y (y_len Tryz.underlying22 rfl) rfl (L_gyes rfl rfl (L_y (y_move rfl) rfl (L_gyes rfl rfl (L_y (y_len Tryz.underlying22 rfl) rfl (L_gyes rfl rfl (L_y (y_lss rfl rfl) rfl ?_))))))))); refine L_y ((by first | exact y_pickT rfl rfl | exact y_pickF rfl rfl)) rfl ?_; refine L_nil (hK13 _ _ ?_); refine T_cond rfl (fun h57 => ?_) (fun h57 => ?_)
      ·
       have hlen := h57; refine T_region (L_y (y_move rfl) rfl (L_y (y_move rfl) rfl (L_y (y_assign rfl) rfl (L_y (y_assign rfl) rfl (L_nil (hK7 _ _ (T_region (L_y (y_add rfl rfl (i64w (by omega))) rfl (L_y (y_move rfl) rfl ?_))))))))); refine L_nil ?_; have hst : shF os p.l ((candF os kind chain os.length 0).take (i + 1)) (-1, p.l) = ((k : Int), scB x.p.l p.l) := by rw [sh_next hk, hxl]; exact step_yes ho (by rw [← hq.val, hq.ok.lenb]; rw [hxl] at hlen; first | exact Int.ofNat_lt.1 hlen | exact fun h => hlen (Int.ofNat_lt.2 h))
       have hqn2 : QOk w0 w9 p ((k : Int), scB x.p.l p.l) ⟨A9, (scB x.p.l p.l).length, c9, scB x.p.l p.l⟩ := ⟨hd9, rfl, .inr ⟨by show (0 : Int) ≤ (k : Int); omega, fun ad h1 h2 => Nat.le_trans hsz9 (hf9 ad h1 h2)⟩⟩; refine ⟨i + 1, _, ⟨A9, (scB x.p.l p.l).length, c9, scB x.p.l p.l⟩, by omega, ⟨⟨by omega, hst.symm⟩, hlk4, hc4, hqn2, hb4⟩, ?_⟩; exact (Sub.cons rfl (by first | rfl | exact congrArg (Value.int _) (by omega)) (Sub.cons rfl (by first | rfl | exact congrArg (Value.int _) (by omega)) (Sub.cons rfl (by first | rfl | exact congrArg (Value.int _) (by omega)) (Sub.cons rfl rfl (Sub.cons rfl rfl (Sub.cons rfl rfl (Sub.cons rfl rfl (Sub.nil _))))))))
      ·
       have hlen := h57; refine T_skip (hK7 _ _ (T_region (L_y (y_add rfl rfl (i64w (by omega))) rfl (L_y (y_move rfl) rfl (L_nil ?_))))); have hst : shF os p.l ((candF os kind chain os.length 0).take (i + 1)) (-1, p.l) = (shF os p.l ((candF os kind chain os.length 0).take i) (-1, p.l)) := by rw [sh_next hk]; exact step_no ho (by rw [← hq.val, hq.ok.lenb]; rw [hxl] at hlen; first | exact Int.ofNat_lt.1 hlen | exact fun h => hlen (Int.ofNat_lt.2 h))
       have hqn2 := hq4; refine ⟨i + 1, _, q, by omega, ⟨⟨by omega, hst.symm⟩, hlk4, hc4, hqn2, hb4⟩, ?_⟩; exact (Sub.cons rfl (by first | rfl | exact congrArg (Value.int _) (by omega)) (Sub.cons rfl (by first | rfl | exact congrArg (Value.int _) (by omega)) (Sub.cons rfl (by first | rfl | exact congrArg (Value.int _) (by omega)) (Sub.cons rfl rfl (Sub.cons rfl rfl (Sub.cons rfl rfl (Sub.cons rfl rfl (Sub.nil _))))))))
     ·
      exact absurd rfl h51
   ·
    refine o_alloc zz179 S5 rfl fun b11 w11 hb11 S11 => ⟨S11.like0, (DX_o1 10 (by kernel_rfl) rfl (o_call Tryz.func121 rfl rfl (Del.pmakeH _ _ _ _ _ _ x.p.l p.l w11 (Rs.like hxo (hlk.trans S11.like0)) (Rs.like hp (hlk.trans S11.like0)) (by omega) (by omega)) rfl rfl ?_))⟩; rintro e12 w12 ⟨v12, rfl, l12, A12, c12, ops12, R12, rfl, hh12, dd12, hr12, hv12⟩; refine ⟨_, rfl, ?_⟩; have S12 := S11.new l12 _ hh12 dd12; refine ⟨S12.like0, (DX_y 11 (by kernel_rfl) rfl (y_move rfl) rfl (DX_y 12 (by kernel_rfl) rfl (y_extract rfl rfl) rfl (DX_y 13 (by kernel_rfl) rfl (y_extract rfl rfl) rfl (DX_o1 15 (by kernel_rfl) rfl (o_stW S12 0 rfl rfl rfl sz179 (by rfl) (by intro u hu; simp [scA] at hu; rcases hu with rfl | rfl | rfl <;> rfl) fun w13 S13 => ?_)))))⟩; refine ⟨S13.like0, (DX_y 16 (by kernel_rfl) rfl (y_assign rfl) rfl (DX_nil (by kernel_rfl) (hK9 _ _ (T_seq fun K14 hK14 => T_seq fun K15 hK15 => T_region (L_y (y_move rfl) rfl (L_y (y_neq rfl rfl) rfl (L_nil ?_)))))))⟩; refine hK15 _ _ ?_; refine T_cond rfl (fun h43 => ?_) (fun h43 => ?_)
    ·
     exact absurd rfl h43
    ·
     refine T_skip (hK14 _ _ (T_seq fun K16 hK16 => T_region (L_y (y_ldW Tryz.underlying179 rfl sz179 rfl (S13.blk 0 rfl) (show _ = (scA (x.p.n : Int) (p.n : Int) _ _ _).toList ∧ _ from ⟨rfl, rfl⟩)) rfl (L_o (o_call Tryz.func122 rfl rfl (Del.pputM (x := x.p.l) (y := p.l) (by omega) (by omega) A12 c12 ops12 _ _ w13 (hr12 _ (S13.get 1 rfl)).1 (hr12 _ (S13.get 1 rfl)).2 hv12 (by omega) (by omega)) rfl rfl ?_))))); rintro e14 w14 ⟨v14, rfl, l14, A14, c14, rfl, O14⟩; refine ⟨_, rfl, ?_⟩; have S14 := S13.adopt l14 O14; have hlk3 : Like w4 w14 := S14.like0; have hd9 : Rs w14 1 A14 (scB x.p.l p.l).length c14 (bL (scB x.p.l p.l)) := S14.row 2 rfl; have hf9 := (Fr.of_own (S14.own 2 rfl)).2; have hb4 := hb1.below hlk3 hb1.lt; have hlk4 := hlk.trans hlk3; have hc4 := hc.like hlk3; have hq4 := hq.like hlk3; have hsz9 := hlk.size; refine L_y (y_move rfl) rfl (L_y (y_extract rfl rfl) rfl (L_y (y_extract rfl rfl) rfl (L_y (y_assign rfl) rfl (L_y (y_assign rfl) rfl (L_nil (hK16 _ _ (T_seq fun K17 hK17 => T_region (L_y (y_move rfl) rfl ?_)))))))); refine L_y (y_eql rfl rfl) rfl (L_y (y_move rfl) rfl ?_); refine L_split 51 rfl (fun h51 => ?_) (fun h51 => ?_)
     ·
      refine L_gyes rfl rfl (L_y (y_move rfl) rfl (L_gyes rfl rfl (L_y (y_len Tryz.underlying22 rfl) rfl (L_gyes rfl rfl (L_y (y_move rfl) rfl (L_gyes rfl rfl (L_y (y_len Tryz.underlying22 rfl) rfl (L_gyes rfl rfl (L_y (y_lss rfl rfl) rfl ?_))))))))); refine L_y ((by first | exact y_pickT rfl rfl | exact y_pickF rfl rfl)) rfl ?_; refine L_nil (hK17 _ _ ?_); refine T_cond rfl (fun h57 => ?_) (fun h57 => ?_)
      ·
       have hlen := h57; refine T_region (L_y (y_move rfl) rfl (L_y (y_move rfl) rfl (L_y (y_assign rfl) rfl (L_y (y_assign rfl) rfl (L_nil (hK7 _ _ (T_region (L_y (y_add rfl rfl (i64w (by omega))) rfl (L_y (y_move rfl) rfl ?_))))))))); refine L_nil ?_; have hst : shF os p.l ((candF os kind chain os.length 0).take (i + 1)) (-1, p.l) = ((k : Int), scB x.p.l p.l) := by rw [sh_next hk, hxl]; exact step_yes ho (by rw [← hq.val, hq.ok.lenb]; rw [hxl] at hlen; first | exact Int.ofNat_lt.1 hlen | exact fun h => hlen (Int.ofNat_lt.2 h))
       have hqn2 : QOk w0 w14 p ((k : Int), scB x.p.l p.l) ⟨A14, (scB x.p.l p.l).length, c14, scB x.p.l p.l⟩ := ⟨hd9, rfl, .inr ⟨by show (0 : Int) ≤ (k : Int); omega, fun ad h1 h2 => Nat.le_trans hsz9 (hf9 ad h1 h2)⟩⟩; refine ⟨i + 1, _, ⟨A14, (scB x.p.l p.l).length, c14, scB x.p.l p.l⟩, by omega, ⟨⟨by omega, hst.symm⟩, hlk4, hc4, hqn2, hb4⟩, ?_⟩; exact (Sub.cons rfl (by first | rfl | exact congrArg (Value.int _) (by omega)) (Sub.cons rfl (by first | rfl | exact congrArg (Value.int _) (by omega)) (Sub.cons rfl (by first | rfl | exact congrArg (Value.int _) (by omega)) (Sub.cons rfl rfl (Sub.cons rfl rfl (Sub.cons rfl rfl (Sub.cons rfl rfl (Sub.nil _))))))))
      ·
       have hlen := h57; refine T_skip (hK7 _ _ (T_region (L_y (y_add rfl rfl (i64w (by omega))) rfl (L_y (y_move rfl) rfl (L_nil ?_))))); have hst : shF os p.l ((candF os kind chain os.length 0).take (i + 1)) (-1, p.l) = (shF os p.l ((candF os kind chain os.length 0).take i) (-1, p.l)) := by rw [sh_next hk]; exact step_no ho (by rw [← hq.val, hq.ok.lenb]; rw [hxl] at hlen; first | exact Int.ofNat_lt.1 hlen | exact fun h => hlen (Int.ofNat_lt.2 h))
       have hqn2 := hq4; refine ⟨i + 1, _, q, by omega, ⟨⟨by omega, hst.symm⟩, hlk4, hc4, hqn2, hb4⟩, ?_⟩; exact (Sub.cons rfl (by first | rfl | exact congrArg (Value.int _) (by omega)) (Sub.cons rfl (by first | rfl | exact congrArg (Value.int _) (by omega)) (Sub.cons rfl (by first | rfl | exact congrArg (Value.int _) (by omega)) (Sub.cons rfl rfl (Sub.cons rfl rfl (Sub.cons rfl rfl (Sub.cons rfl rfl (Sub.nil _))))))))
     ·
      exact absurd rfl h51
  ·
   refine T_exit (hK3 _ _ (T_seq fun K18 hK18 => T_region (L_y (y_move rfl) rfl (L_y (y_move rfl) rfl (L_y (y_assign rfl) rfl (L_y (y_assign rfl) rfl (L_nil (hK18 _ _ ?_)))))))); refine T_ret ?_; repeat (first | with_reducible refine up_then ?_ | with_reducible refine up_in ?_)
   refine ret2 rfl rfl rfl ?_; obtain rfl : i = (candF os kind chain os.length 0).length := by omega
   rw [List.take_length] at hq; exact ⟨_, rfl, hlk, q, by rw [List.take_length]; rfl, hq⟩
end Go.Proofs.YtgaklngnfecdaaaGreat.Pak
namespace Go.Proofs.YtgaklngnfecdaaaGreat.Pak
open Go.RowKit Zk Zx
open Oct
section
variable {x1 x2 x3 : Value}
def wu (x1 x2 x3 : Value) (g : Nat) (A : Option Addr) (n c : Nat) (l : List UInt8) : Res := both (blk g 113 #[.slice A n c, x1, x2, x3]) (row 5 1 A n c (bL l))
theorem wu_apart {w : World} {g n c : Nat} {A : Option Addr} {l : List UInt8} (h : (wu x1 x2 x3 g A n c l).holds w) : ∀ i, (blk g 113 #[.slice A n c, x1, x2, x3]).dom i → ¬ (row 5 1 A n c (bL l)).dom i := fun i hi hr => by
  have hi' : i = g := hi
  subst hi'
  exact own_blk_ne (e := 5) h.2 h.1 (by decide) hr
theorem wu_lt {w : World} {g n c : Nat} {A : Option Addr} {l : List UInt8} (h : (wu x1 x2 x3 g A n c l).holds w) : ∀ i, (wu x1 x2 x3 g A n c l).dom i → i < w.heap.size := fun i hi => by
  rcases hi with hi | hi
  · have hi' : i = g := hi
    subst hi'
    exact Blk.lt h.1
  · exact (World.ownsRow.lt h.2 i hi).2
theorem wu_len {w : World} {g n c : Nat} {A : Option Addr} {l : List UInt8} (h : (wu x1 x2 x3 g A n c l).holds w) : l.length = n := by
  have := h.2.1
  simpa using this
def LaidW (x1 x2 x3 : Value) (w w' : World) (g : Nat) (A : Option Addr) (n c : Nat) (l m : List UInt8) : Prop := ∃ A' n' c', Turned w w' (wu x1 x2 x3 g A n c l) (wu x1 x2 x3 g A' n' c' m)
theorem LaidW.of {w w' : World} {g n c n' c' : Nat} {A A' : Option Addr} {l m : List UInt8} {X : Array Value} {ys : List Value} (h : Turned w w' (wu x1 x2 x3 g A n c l) (both (blk g 113 X) (row 5 1 A' n' c' ys))) (hX : X = #[.slice A' n' c', x1, x2, x3]) (hy : ys = bL m) : LaidW x1 x2 x3 w w' g A n c l m := by
  subst hX
  subst hy
  exact ⟨A', n', c', h⟩
theorem LaidW.refl {w : World} {g n c : Nat} {A : Option Addr} {l : List UInt8} (h : (wu x1 x2 x3 g A n c l).holds w) : LaidW x1 x2 x3 w w g A n c l l := ⟨A, n, c, Turned.refl h⟩
theorem wbyteW (g : Nat) (A : Option Addr) (n c : Nat) (l : List UInt8) (x : UInt8) (w0 : World) (hw : (wu x1 x2 x3 g A n c l).holds w0) (hn : l.length ≤ 70368744177664) :
    Calls Tryz.prog 89 #[.pointer (some ⟨g, 0, none⟩), .int .u8 (x.toNat : Int)] w0 fun e w' => ∃ u, e = .returned u ∧ LaidW x1 x2 x3 w0 w' g A n c l (l ++ [x]) := by
 refine enter1 (env := [(0, .pointer (some ⟨g, 0, none⟩)), (1, .int .u8 (x.toNat : Int))]) [.pointer (some ⟨g, 0, none⟩), .int .u8 (x.toNat : Int)] Tryz.func89 rfl Tryz.ntmps89 rfl rfl ?_; have hln := wu_len hw; have S0 := St.borrow2 (blk g 113 #[.slice A n c, x1, x2, x3]) (row 5 1 A n c (bL l)) hw.1 hw.2 (wu_lt hw) (wu_apart hw); refine T_seq fun K1 hK1 => T_region (L_y (y_move rfl) rfl (L_y (y_pneqn Tryz.underlying163 rfl) rfl (L_nil (hK1 _ _ (T_true rfl (T_region (L_y (y_move rfl) rfl (L_y (y_move rfl) rfl ?_)))))))); refine L_y (y_nilp rfl) rfl (L_y (y_fieldA 0 Tryz.underlying110 rfl sz22 rfl rfl rfl) rfl (L_y (y_ldc Tryz.underlying22 rfl rfl (((S0.blk 0 rfl).cell _).trans (show (#[Value.slice A n c, x1, x2, x3] : Array Value)[0]? = some (Value.slice A n c) from rfl))) rfl (L_y (y_move rfl) rfl (L_o (o_bsl [_] te22 zz5 S0 rfl rfl rfl rfl rfl rfl rfl rfl fun b1 w1 S1 => L_o (o_app te22 S1 1 rfl rfl rfl (by first | exact S1.row 1 rfl | exact S1.row 2 rfl) (by first | exact bL_one _ | exact iL_one _ | (intro u hu; simp at hu; subst hu; rfl) | (simp; done) | (simp [Value.oneCell']; done)) rfl (by omega) (by omega) fun A2 c2 w2 S2 => ?_)))))); have S2d := S2.drop (rs' := [_, _]) (.cons_cons _ (.cons_cons _ (.cons _ (.refl _)))); refine L_y (y_nilp rfl) rfl (L_y (y_fieldA 0 Tryz.underlying110 rfl sz22 rfl rfl rfl) rfl (L_o (o_st1 S2d 0 rfl rfl rfl rfl sz22 (by simp; done) fun w3 S3 => ?_))); refine L_nil ?_; first | refine end0 (fn := Tryz.f89) rfl ?_ | (simp only [thenQ, inB, if_true]; refine end0 (fn := Tryz.f89) rfl ?_)
 exact ⟨_, rfl, LaidW.of (S3.turned2 0 1 rfl rfl) rfl (by simp [bL, bV])⟩
theorem wrawW (g : Nat) (A : Option Addr) (n c : Nat) (l : List UInt8) (B : Option Addr) (m d : Nat) (q : List UInt8) (w0 : World) (hw : (wu x1 x2 x3 g A n c l).holds w0) (hp : Rs w0 1 B m d (bL q)) (hn : l.length + m ≤ 70368744177664) :
    Calls Tryz.prog 55 #[.pointer (some ⟨g, 0, none⟩), .slice B m d] w0 fun e w' => ∃ u, e = .returned u ∧ LaidW x1 x2 x3 w0 w' g A n c l (l ++ q) := by
 refine enter1 (env := [(0, .pointer (some ⟨g, 0, none⟩)), (1, .slice B m d)]) [.pointer (some ⟨g, 0, none⟩), .slice B m d] Tryz.func55 rfl Tryz.ntmps55 rfl rfl ?_; have hln := wu_len hw; have S0 := St.borrow2 (blk g 113 #[.slice A n c, x1, x2, x3]) (row 5 1 A n c (bL l)) hw.1 hw.2 (wu_lt hw) (wu_apart hw); refine T_seq fun K1 hK1 => T_region (L_y (y_move rfl) rfl (L_y (y_pneqn Tryz.underlying163 rfl) rfl (L_nil (hK1 _ _ (T_true rfl (T_region (L_y (y_move rfl) rfl (L_y (y_move rfl) rfl ?_)))))))); refine L_y (y_nilp rfl) rfl (L_y (y_fieldA 0 Tryz.underlying110 rfl sz22 rfl rfl rfl) rfl (L_y (y_ldc Tryz.underlying22 rfl rfl (((S0.blk 0 rfl).cell _).trans (show (#[Value.slice A n c, x1, x2, x3] : Array Value)[0]? = some (Value.slice A n c) from rfl))) rfl (L_y (y_move rfl) rfl (L_o (o_app te22 S0 1 rfl rfl rfl (hp) (bL_one _) rfl (by omega) (by omega) fun A1 c1 w1 S1 => L_y (y_nilp rfl) rfl (L_y (y_fieldA 0 Tryz.underlying110 rfl sz22 rfl rfl rfl) rfl (L_o (o_st1 S1 0 rfl rfl rfl rfl sz22 (by simp; done) fun w2 S2 => ?_)))))))); refine L_nil ?_; first | refine end0 (fn := Tryz.f55) rfl ?_ | (simp only [thenQ, inB, if_true]; refine end0 (fn := Tryz.f55) rfl ?_)
 have hE := S2.turned2 0 1 rfl rfl; exact ⟨_, rfl, LaidW.of hE rfl (by simp [bL])⟩
theorem wlenW (g : Nat) (A : Option Addr) (n c : Nat) (l : List UInt8) (w0 : World) (hw : (wu x1 x2 x3 g A n c l).holds w0) :
    Calls Tryz.prog 58 #[.pointer (some ⟨g, 0, none⟩)] w0 fun e w' => ∃ u, e = .returned u ∧ Like w0 w' ∧ u = .int .i64 (n : Int) := by
 refine enter1 (env := [(0, .pointer (some ⟨g, 0, none⟩))]) [.pointer (some ⟨g, 0, none⟩)] Tryz.func58 rfl Tryz.ntmps58 rfl rfl ?_; have S0 := St.start w0 noM; refine T_seq fun K1 hK1 => T_region (L_y (y_assign rfl) rfl (L_nil (hK1 _ _ (T_seq fun K2 hK2 => T_seq fun K3 hK3 => T_region (L_y (y_move rfl) rfl (L_y (y_peqn Tryz.underlying163 rfl) rfl ?_)))))); refine L_nil (hK3 _ _ (T_false rfl (T_skip (hK2 _ _ (T_seq fun K4 hK4 => T_region (L_y (y_move rfl) rfl (L_y (y_nilp rfl) rfl (L_y (y_fieldA 0 Tryz.underlying110 rfl sz22 rfl rfl rfl) rfl ?_)))))))); refine L_y (y_ldc Tryz.underlying22 rfl rfl ((hw.1.cell _).trans (show (#[Value.slice A n c, x1, x2, x3] : Array Value)[0]? = some (Value.slice A n c) from rfl))) rfl (L_y (y_len Tryz.underlying22 rfl) rfl (L_y (y_assign rfl) rfl (L_nil (hK4 _ _ (T_ret ?_))))); repeat (first | with_reducible refine up_then ?_ | with_reducible refine up_in ?_)
 refine ret1 rfl rfl ?_; exact ⟨_, rfl, S0.like0, rfl⟩
theorem wu32W (g : Nat) (A : Option Addr) (n c : Nat) (l : List UInt8) (x : Nat) (w0 : World) (hw : (wu x1 x2 x3 g A n c l).holds w0) (hx : x ≤ 4294967295) (hn : l.length ≤ 70368744177000) :
    Calls Tryz.prog 56 #[.pointer (some ⟨g, 0, none⟩), .int .u32 (x : Int)] w0 fun e w' => ∃ u, e = .returned u ∧ LaidW x1 x2 x3 w0 w' g A n c l (l ++ tl x 4) := by
 refine enter1 (env := [(0, .pointer (some ⟨g, 0, none⟩)), (1, .int .u32 (x : Int))]) [.pointer (some ⟨g, 0, none⟩), .int .u32 (x : Int)] Tryz.func56 rfl Tryz.ntmps56 rfl rfl ?_; have hln := wu_len hw; have S0 := St.borrow1 (wu x1 x2 x3 g A n c l) hw (wu_lt hw); refine T_seq fun K1 hK1 => T_region (L_y (y_move rfl) rfl (L_y (y_makeFunc rfl rfl) rfl (L_y (y_assign rfl) rfl (L_nil (hK1 _ _ (T_seq fun K2 hK2 => T_region (L_y (y_assign rfl) rfl ?_))))))); refine L_nil (hK2 _ _ (T_block ?_)); refine T_loop1 [(1, _), (4, _)] (fun (k : Nat) => [(5, .int .i64 (24 - 8 * (k : Int)))]) (fun (k : Nat) => 4 - k) (fun (k : Nat) (w : World) => k ≤ 4 ∧ ∃ A1 n1 c1, St w0 (wu x1 x2 x3 g A n c l).dom [wu x1 x2 x3 g A1 n1 c1 (l ++ (tl x 4).take k)] w) 0 (Sub.cons rfl (by first | rfl | exact congrArg (Value.int _) (by omega)) (Sub.nil _)) (Sub.cons rfl rfl (Sub.cons rfl rfl (Sub.nil _))) ?_ ?_
 ·
  exact ⟨Nat.zero_le _, _, _, _, by simpa using S0⟩
 ·
  intro k w1 hrel; obtain ⟨hk, A1, n1, c1, S1⟩ := hrel; refine T_seq fun K3 hK3 => T_seq fun K4 hK4 => T_region (L_y (y_move rfl) rfl (L_y (y_geq rfl rfl) rfl (L_nil (hK4 _ _ ?_)))); refine T_cond rfl (fun h9 => ?_) (fun h9 => ?_)
  ·
   refine T_skip (hK3 _ _ (T_seq fun K5 hK5 => T_block (T_region (L_y (y_move rfl) rfl (L_y (y_move rfl) rfl (L_y (y_move rfl) rfl (L_y (y_conv is3 Tryz.underlying68 rfl (u64w (by omega))) rfl (L_y (y_shr rfl rfl (by omega) (shr24 x k (by omega))) rfl ?_)))))))); refine L_y (y_conv is63 Tryz.underlying5 rfl (Oct.byteOf _)) rfl (L_o (o_callv rfl Tryz.func89 rfl rfl (wbyteW g A1 n1 c1 (l ++ (tl x 4).take k) (UInt8.ofNat (x / 256 ^ (4 - 1 - k) % 256)) w1 (S1.get 0 rfl) (by simp [length_tl]; omega)) rfl rfl (fun d' hd => by cases hd <;> rfl) ?_)); rintro e2 w2 ⟨v2, rfl, ⟨A2, n2, c2, T2⟩⟩; refine ⟨_, rfl, ?_⟩; have S2 := S1.turn 0 rfl T2; refine L_nil (hK5 _ _ (T_region (L_y (y_move rfl) rfl (L_y (y_sub rfl rfl (i64w (by omega))) rfl (L_y (y_assign rfl) rfl (L_nil (⟨k + 1, by omega, ⟨by omega, _, _, _, by rw [tl_take x 4 k (by omega), ← List.append_assoc]; exact S2⟩, ?_⟩))))))); exact (Sub.cons rfl (congrArg (Value.int _) (by omega)) (Sub.cons rfl rfl (Sub.cons rfl rfl (Sub.nil _))))
  ·
   have hk4 : k = 4 := by omega
   subst hk4; refine T_exit ?_; first | refine end0 (fn := Tryz.f56) rfl ?_ | (simp only [thenQ, inB, if_true]; refine end0 (fn := Tryz.f56) rfl ?_)
   exact ⟨_, rfl, A1, n1, c1, by simpa [List.take_of_length_le, length_tl] using S1.turned1 0 rfl⟩
theorem wvarW (g : Nat) (A : Option Addr) (n c : Nat) (l : List UInt8) (x : Nat) (w0 : World) (hw : (wu x1 x2 x3 g A n c l).holds w0) (hx : x ≤ 18446744073709551615) (hn : l.length ≤ 70368744176000) :
    Calls Tryz.prog 91 #[.pointer (some ⟨g, 0, none⟩), .int .u64 (x : Int)] w0 fun e w' => ∃ u, e = .returned u ∧ LaidW x1 x2 x3 w0 w' g A n c l (l ++ vr x) := by
 refine enter1 (env := [(0, .pointer (some ⟨g, 0, none⟩)), (1, .int .u64 (x : Int))]) [.pointer (some ⟨g, 0, none⟩), .int .u64 (x : Int)] Tryz.func91 rfl Tryz.ntmps91 rfl rfl ?_; have hln := wu_len hw; have S0 := St.borrow1 (wu x1 x2 x3 g A n c l) hw (wu_lt hw); refine T_seq fun K1 hK1 => T_region (L_y (y_move rfl) rfl (L_y (y_makeFunc rfl rfl) rfl (L_y (y_assign rfl) rfl (L_nil (hK1 _ _ (T_seq fun K2 hK2 => T_block ?_)))))); refine T_loop2 [(4, _)] (fun (y : Nat) (m : List UInt8) => [(1, .int .u64 (y : Int))]) (fun (y : Nat) (m : List UInt8) => y) (fun (y : Nat) (m : List UInt8) (w : World) => (m ++ vr y = l ++ vr x ∧ y ≤ x ∧ m.length + (vr y).length ≤ 70368744177000) ∧ ∃ A1 n1 c1, St w0 (wu x1 x2 x3 g A n c l).dom [wu x1 x2 x3 g A1 n1 c1 m] w) x l (Sub.cons rfl (by first | rfl | exact congrArg (Value.int _) (by omega)) (Sub.nil _)) (Sub.cons rfl rfl (Sub.nil _)) ?_ ?_
 ·
  have := vr_len10 x hx; exact ⟨⟨rfl, Nat.le_refl _, by omega⟩, _, _, _, S0⟩
 ·
  intro y m w1 hrel; obtain ⟨⟨hm, hy, hml⟩, A1, n1, c1, S1⟩ := hrel; have hg : m.length ≤ 70368744177000 := by omega
  refine T_seq fun K3 hK3 => T_seq fun K4 hK4 => T_region (L_y (y_move rfl) rfl (L_y (y_geq rfl rfl) rfl (L_nil (hK4 _ _ ?_)))); refine T_cond rfl (fun h8 => ?_) (fun h8 => ?_)
  ·
   refine T_skip (hK3 _ _ (T_block (T_seq fun K5 hK5 => T_region (L_y (y_move rfl) rfl (L_y (y_move rfl) rfl (L_y (y_conv is102 Tryz.underlying5 rfl (w8 _)) rfl (L_y (y_bits rfl rfl rfl (orB _)) rfl (L_o (o_callv rfl Tryz.func89 rfl rfl (wbyteW g _ _ _ _ (UInt8.ofNat (y % 128 + 128)) w1 (S1.get 0 rfl) (by omega)) rfl rfl (fun d' hd => by cases hd <;> rfl) ?_))))))))); rintro e2 w2 ⟨v2, rfl, ⟨A2, n2, c2, T2⟩⟩; refine ⟨_, rfl, ?_⟩; have S2 := S1.turn 0 rfl T2; refine L_nil (hK5 _ _ (T_region (L_y (y_move rfl) rfl (L_y (y_shr rfl rfl (by omega) (shr7 _)) rfl (L_y (y_assign rfl) rfl (L_nil (⟨y / 128, m ++ [UInt8.ofNat (y % 128 + 128)], by omega, ⟨⟨by rw [← hm, vr_big y (by omega)]; simp, by omega, by rw [vr_big y (by omega)] at hml; simp at hml ⊢; omega⟩, _, _, _, S2⟩, ?_⟩))))))); exact (Sub.cons rfl (by first | rfl | exact congrArg (Value.int _) (by omega)) (Sub.cons rfl rfl (Sub.nil _)))
  ·
   refine T_exit (hK2 _ _ (T_region (L_y (y_move rfl) rfl (L_y (y_move rfl) rfl (L_y (y_conv is102 Tryz.underlying5 rfl (w8low _ (by omega))) rfl (L_o (o_callv rfl Tryz.func89 rfl rfl (wbyteW g _ _ _ _ (UInt8.ofNat y) w1 (S1.get 0 rfl) (by omega)) rfl rfl (fun d' hd => by cases hd <;> rfl) ?_))))))); rintro e3 w3 ⟨v3, rfl, ⟨A3, n3, c3, T3⟩⟩; refine ⟨_, rfl, ?_⟩; have S3 := S1.turn 0 rfl T3; refine L_nil ?_; first | refine end0 (fn := Tryz.f91) rfl ?_ | (simp only [thenQ, inB, if_true]; refine end0 (fn := Tryz.f91) rfl ?_)
   exact ⟨_, rfl, _, _, _, by rw [← hm, vr_low y (by omega)]; exact S3.turned1 0 rfl⟩
theorem wbytesW (g : Nat) (A : Option Addr) (n c : Nat) (l : List UInt8) (w0 : World) (hw : (wu x1 x2 x3 g A n c l).holds w0) (hn : l.length ≤ 70368744177000) :
    Calls Tryz.prog 59 #[.pointer (some ⟨g, 0, none⟩)] w0 fun e w' => ∃ u, e = .returned u ∧ Like w0 w' ∧ ∃ A' m c', u = .slice A' m c' ∧ w'.ownsRow w0.heap.size 5 1 (.slice A' m c') m (bL l) := by
 refine enter1 (env := [(0, .pointer (some ⟨g, 0, none⟩))]) [.pointer (some ⟨g, 0, none⟩)] Tryz.func59 rfl Tryz.ntmps59 rfl rfl ?_; have hln := wu_len hw; have S0 := St.start w0 noM; refine T_seq fun K1 hK1 => T_region (L_y (y_assign rfl) rfl (L_nil (hK1 _ _ (T_seq fun K2 hK2 => T_seq fun K3 hK3 => T_region (L_y (y_move rfl) rfl (L_y (y_peqn Tryz.underlying163 rfl) rfl ?_)))))); refine L_y (y_move rfl) rfl (L_gyes rfl rfl (L_y (y_move rfl) rfl (L_gyes rfl rfl (L_y (y_nilp rfl) rfl (L_gyes rfl rfl (L_y (y_fieldA 0 Tryz.underlying110 rfl sz22 rfl rfl rfl) rfl (L_gyes rfl rfl (L_y (y_ldc Tryz.underlying22 rfl rfl (((S0.rdB hw.1).cell _).trans (show (#[Value.slice A n c, x1, x2, x3] : Array Value)[0]? = some (Value.slice A n c) from rfl))) rfl (L_gyes rfl rfl ?_))))))))); refine L_y (y_len Tryz.underlying22 rfl) rfl (L_gyes rfl rfl (L_y (y_eql rfl rfl) rfl (L_y ((by first | exact y_pickT rfl rfl | exact y_pickF rfl rfl)) rfl ?_))); refine L_nil (hK3 _ _ ?_); refine T_cond rfl (fun h12 => ?_) (fun h12 => ?_)
 ·
  refine T_seq fun K4 hK4 => T_region (L_y (y_assign rfl) rfl (L_nil (hK4 _ _ (T_ret ?_)))); repeat (first | with_reducible refine up_then ?_ | with_reducible refine up_in ?_)
  refine ret1 rfl rfl ?_; first | exact ⟨_, rfl, S0.like0, none, 0, 0, rfl, by have hn0 : n = 0 := (by omega); subst hn0; have hl0 := List.length_eq_zero_iff.1 hln; subst hl0; exact ⟨by simp [bL], .inl ⟨rfl, rfl⟩⟩⟩ | exact ⟨_, rfl, S0.like0, _, _, _, rfl, by have := S0.own 0 rfl; simpa using this⟩
 ·
  refine T_skip (hK2 _ _ (T_seq fun K5 hK5 => T_zed [0, 1, 2, 3, 4, 6, 7, 8, 9, 5] 10 [(0, 1), (1, 1), (2, 1), (3, 1), (4, 1), (6, 1), (7, 1), (8, 1), (9, 1), (5, 2), (10, 3), (11, 3)] hmix (by kernel_rfl) fun w1 l1 => ?_)); have S1 := S0.like l1; refine ZA_B (Like w1) (Like.refl _) (ZB_y rfl (y_move rfl) rfl (ZB_y rfl (y_nilp rfl) rfl (ZB_y rfl (y_fieldA 0 Tryz.underlying110 rfl sz22 rfl rfl rfl) rfl (ZB_y rfl (y_ldc Tryz.underlying22 rfl rfl (((S1.rdB hw.1).cell _).trans (show (#[Value.slice A n c, x1, x2, x3] : Array Value)[0]? = some (Value.slice A n c) from rfl))) rfl (ZB_y rfl (y_len Tryz.underlying22 rfl) rfl (ZB_y rfl (y_move rfl) rfl (ZB_y rfl (y_nilp rfl) rfl (ZB_y rfl (y_fieldA 0 Tryz.underlying110 rfl sz22 rfl rfl rfl) rfl (ZB_y rfl (y_ldc Tryz.underlying22 rfl rfl (((S1.rdB hw.1).cell _).trans (show (#[Value.slice A n c, x1, x2, x3] : Array Value)[0]? = some (Value.slice A n c) from rfl))) rfl ?_))))))))); refine ZB_o rfl (o_makeL te22 rfl S1 rfl rfl inferInstance inferInstance rfl (by omega) (by omega) (by omega) fun b2 w2 l2 S2 => ?_); have q2 := l2; refine ⟨q2, (ZB_c rfl (o_app te22 S2 0 rfl rfl rfl (S2.rd (rs_of_row hw.2)) (bL_one _) rfl (by omega) (by omega) fun A3 c3 w3 S3 => ZA_oy rfl (y_assign rfl) rfl (ZA_nil (hK5 _ _ (T_ret ?_)))))⟩; repeat (first | with_reducible refine up_then ?_ | with_reducible refine up_in ?_)
  refine ret1 rfl rfl ?_; first | exact ⟨_, rfl, S3.like0, none, 0, 0, rfl, by have hn0 : n = 0 := (by omega); subst hn0; have hl0 := List.length_eq_zero_iff.1 hln; subst hl0; exact ⟨by simp [bL], .inl ⟨rfl, rfl⟩⟩⟩ | exact ⟨_, rfl, S3.like0, _, _, _, rfl, by have := S3.own 0 rfl; simpa using this⟩
end
end Go.Proofs.YtgaklngnfecdaaaGreat.Pak
namespace Go.Proofs.YtgaklngnfecdaaaGreat.Zx
open Go.RowKit Zk
section
variable {w0 w : World} {M : Nat → Prop} {rs ps : List Res} {r s : Res}
theorem St.splitAt (S : St w0 M rs w) (k : Nat) (hk : rs[k]? = some (both r s)) (hap : ∀ i, r.dom i → ¬ s.dom i) : St w0 M (rs.set k r ++ [s]) w := by
  obtain ⟨hkl, hke⟩ := List.getElem?_eq_some_iff.1 hk
  have hp := List.pairwise_iff_getElem.1 S.apart
  have hb := S.res (both r s) (List.mem_of_getElem? hk)
  have hne : ∀ j (hj : j < rs.length), j ≠ k → ∀ i, rs[j].dom i → ¬ (both r s).dom i := fun j hj h i hi hb2 => by
    rcases Nat.lt_or_gt_of_ne h with g | g
    · exact hp j k hj hkl g i hi (by rw [hke]; exact hb2)
    · exact hp k j hkl hj g i (by rw [hke]; exact hb2) hi
  refine ⟨S.os, S.tape, S.output, S.size, S.old, fun q hq => ?_, ?_⟩
  · rcases List.mem_append.1 hq with hq | hq
    · rcases List.mem_or_eq_of_mem_set hq with g | g
      · exact S.res q g
      · subst g; exact ⟨hb.1.1, fun i hi => hb.2 i (.inl hi)⟩
    · obtain rfl := List.mem_singleton.1 hq
      exact ⟨hb.1.2, fun i hi => hb.2 i (.inr hi)⟩
  · rw [List.pairwise_append]
    refine ⟨?_, List.pairwise_singleton _ _, fun a ha b hbm i hi hbi => ?_⟩
    · rw [List.pairwise_iff_getElem]
      intro i j hi hj hij x hx hxj
      have hi' : i < rs.length := by simpa using hi
      have hj' : j < rs.length := by simpa using hj
      rw [List.getElem_set] at hx hxj
      split at hx
      · rename_i e
        subst e
        rw [if_neg (by omega)] at hxj
        exact hne j hj' (by omega) x hxj (.inl hx)
      · rename_i e
        split at hxj
        · exact hne i hi' (fun q => e q.symm) x hx (.inl hxj)
        · exact hp i j hi' hj' hij x hx hxj
    · obtain rfl := List.mem_singleton.1 hbm
      obtain ⟨j, hj, rfl⟩ := List.getElem_of_mem ha
      have hj' : j < rs.length := by simpa using hj
      rw [List.getElem_set] at hi
      split at hi
      · exact hap i hi hbi
      · rename_i e
        exact hne j hj' (fun q => e q.symm) i hi (.inr hbi)
theorem St.joinL (S : St w0 M (ps ++ [r, s]) w) : St w0 M (ps ++ [both r s]) w := by
  have hap := List.pairwise_append.1 S.apart
  refine ⟨S.os, S.tape, S.output, S.size, S.old, fun q hq => ?_, ?_⟩
  · rcases List.mem_append.1 hq with hq | hq
    · exact S.res q (List.mem_append_left _ hq)
    · obtain rfl := List.mem_singleton.1 hq
      have h1 := S.res r (List.mem_append_right _ (by simp))
      have h2 := S.res s (List.mem_append_right _ (by simp))
      exact ⟨⟨h1.1, h2.1⟩, fun i hi => hi.elim (h1.2 i) (h2.2 i)⟩
  · rw [List.pairwise_append]
    refine ⟨hap.1, List.pairwise_singleton _ _, fun a ha b hbm i hi hbi => ?_⟩
    obtain rfl := List.mem_singleton.1 hbm
    rcases hbi with hbi | hbi
    · exact hap.2.2 a ha r (by simp) i hi hbi
    · exact hap.2.2 a ha s (by simp) i hi hbi
end
end Go.Proofs.YtgaklngnfecdaaaGreat.Zx
