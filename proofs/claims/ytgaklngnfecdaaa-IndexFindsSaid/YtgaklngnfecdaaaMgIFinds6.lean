import Derived.Test.YtgaklngnfecdaaaMgIFinds3
import Derived.Test.YtgaklngnfecdaaaMgIFinds5
import Derived.Test.YtgaklngnfecdaaaMgIFinds2

/-
  The Reader.
-/
namespace Go.Proofs.Ytgaklngnfecdaaa.Oct
open Go.RowKit Zk Zx
set_option linter.unusedVariables false
set_option linter.unusedSimpArgs false

def rdr (g : Nat) (A : Option Addr) (n c : Nat) (l : List UInt8) (p q : Nat) : Res := both (blk g 179 #[.slice A n c, .int .i64 (p : Int), .int .i64 (q : Int)]) (row 5 1 A n c (bL l))
theorem rdr_apart {w : World} {g n c p q : Nat} {A : Option Addr} {l : List UInt8} (h : (rdr g A n c l p q).holds w) : ∀ i, (blk g 179 #[.slice A n c, .int .i64 (p : Int), .int .i64 (q : Int)]).dom i → ¬ (row 5 1 A n c (bL l)).dom i := fun i hi hr => by
  have hi' : i = g := hi
  subst hi'
  exact own_blk_ne (e := 5) h.2 h.1 (by decide) hr
theorem rdr_lt {w : World} {g n c p q : Nat} {A : Option Addr} {l : List UInt8} (h : (rdr g A n c l p q).holds w) : ∀ i, (rdr g A n c l p q).dom i → i < w.heap.size := fun i hi => by
  rcases hi with hi | hi
  · have hi' : i = g := hi
    subst hi'
    exact Blk.lt h.1
  · exact (World.ownsRow.lt h.2 i hi).2
theorem rdr_len {w : World} {g n c p q : Nat} {A : Option Addr} {l : List UInt8} (h : (rdr g A n c l p q).holds w) : l.length = n := by
  have := h.2.1
  simpa using this
/-- What so many bytes are, where they begin, and what is wrong. -/
def tkL (l : List UInt8) (p k : Nat) : List UInt8 := if k ≤ l.length - p then (l.drop p).take k else []
def tkP (l : List UInt8) (p k : Nat) : Nat := if k ≤ l.length - p then p + k else p
def tkE (l : List UInt8) (p k q : Nat) : Nat := if k ≤ l.length - p then q else 10
theorem fresh_ {w0 w : World} {rs : List Res} (S : St w0 noM rs w) (k : Nat) {r : Res} (hk : rs[k]? = some r) : ∀ i, r.dom i → w0.heap.size ≤ i ∧ i < w.heap.size := fun i hi => by
  have := (S.res r (List.mem_of_getElem? hk)).2 i hi
  rcases this.2 with h | h
  · exact ⟨h, this.1⟩
  · exact h.elim
theorem Rdd.of {w w' : World} {g n c p q : Nat} {A : Option Addr} {l : List UInt8} {r : Res} {X : Array Value} (h : Turned w w' r (both (blk g 179 X) (row 5 1 A n c (bL l)))) (hX : X = #[.slice A n c, .int .i64 (p : Int), .int .i64 (q : Int)]) : Turned w w' r (rdr g A n c l p q) := by
  subst hX
  exact h


set_option maxRecDepth 100000 in
theorem rdead (g : Nat) (A : Option Addr) (n c : Nat) (l : List UInt8) (p q : Nat) (w0 : World) (hw : (rdr g A n c l p q).holds w0) (hp : p ≤ l.length) :
    Calls Try.prog 113 #[.pointer (some ⟨g, 0, none⟩)] w0 fun e w' => ∃ u, e = .returned u ∧ Like w0 w' ∧ u = .bool (decide ((q : Int) ≠ 0)) := by
  refine enter1 (env := [(0, .pointer (some ⟨g, 0, none⟩))]) [.pointer (some ⟨g, 0, none⟩)] Try.func113 rfl Try.ntmps113 rfl rfl ?_
  have hnl := rdr_len hw; have hnc := ownsRow_cap hw.2; have S0 := St.start w0 noM
  refine T_seq fun K1 hK1 => ?_
  refine T_region ?_
  refine L_y (y_assign rfl) rfl ?_
  refine L_nil ?_
  refine hK1 _ _ ?_
  refine T_seq fun K2 hK2 => ?_
  refine T_region ?_
  refine L_y (y_move rfl) rfl ?_
  refine L_y (y_peqn Try.underlying130 rfl) rfl ?_
  refine L_y (y_move rfl) rfl ?_
  refine L_gyes rfl rfl ?_
  refine L_y (y_move rfl) rfl ?_
  refine L_gyes rfl rfl ?_
  refine L_y (y_nilp rfl) rfl ?_
  refine L_gyes rfl rfl ?_
  refine L_y (y_fieldA 2 Try.underlying179 rfl sz28 rfl rfl rfl) rfl ?_
  refine L_gyes rfl rfl ?_
  refine L_y (y_ldc Try.underlying28 rfl rfl (((S0.rdB hw.1).cell _).trans (show (#[.slice A n c, .int .i64 (p : Int), .int .i64 (q : Int)] : Array Value)[2]? = some (Value.int .i64 (q : Int)) from rfl))) rfl ?_
  refine L_gyes rfl rfl ?_
  refine L_y (y_neq rfl rfl) rfl ?_
  refine L_y (y_pickF rfl rfl) rfl ?_
  refine L_y (y_assign rfl) rfl ?_
  refine L_nil ?_
  refine hK2 _ _ ?_
  refine T_ret ?_
  repeat (first | with_reducible refine up_then ?_ | with_reducible refine up_in ?_)
  refine ret1 rfl rfl ?_
  exact ⟨_, rfl, S0.like0, rfl⟩


set_option maxRecDepth 100000 in
theorem rtake (g : Nat) (A : Option Addr) (n c : Nat) (l : List UInt8) (p q : Nat) (k : Nat) (w0 : World) (hw : (rdr g A n c l p q).holds w0) (hp : p ≤ l.length) (hk63 : k ≤ 9223372036854775807) (hn62 : n ≤ 4611686018427387904) :
    Calls Try.prog 115 #[.pointer (some ⟨g, 0, none⟩), .int .i64 (k : Int)] w0 fun e w' => ∃ u, e = .returned u ∧ ∃ B c2, u = .slice B (tkL l p k).length c2 ∧ Rs w' 1 B (tkL l p k).length c2 (bL (tkL l p k)) ∧ Turned w0 w' (rdr g A n c l p q) (rdr g A n c l (tkP l p k) (tkE l p k q)) := by
  refine enter1 (env := [(0, .pointer (some ⟨g, 0, none⟩)), (1, .int .i64 (k : Int))]) [.pointer (some ⟨g, 0, none⟩), .int .i64 (k : Int)] Try.func115 rfl Try.ntmps115 rfl rfl ?_
  have hnl := rdr_len hw; have hnc := ownsRow_cap hw.2; have S0 := St.borrow2 (blk g 179 #[.slice A n c, .int .i64 (p : Int), .int .i64 (q : Int)]) (row 5 1 A n c (bL l)) hw.1 hw.2 (rdr_lt hw) (rdr_apart hw)
  refine T_seq fun K1 hK1 => ?_
  refine T_region ?_
  refine L_y (y_assign rfl) rfl ?_
  refine L_nil ?_
  refine hK1 _ _ ?_
  refine T_seq fun K2 hK2 => ?_
  refine T_seq fun K3 hK3 => ?_
  refine T_drawnL [(0, true), (1, true), (2, true), (3, true), (4, true), (5, true), (6, true), (7, true), (8, true), (9, true), (10, true), (11, true)] hmix (by kernel_rfl) fun w1 l1 => ?_
  have S1 := S0.like l1
  refine DL_y rfl (y_move rfl) rfl ?_
  refine DL_y rfl (y_move rfl) rfl ?_
  refine DL_y rfl (y_nilp rfl) rfl ?_
  refine DL_y rfl (y_fieldA 0 Try.underlying179 rfl sz27 rfl rfl rfl) rfl ?_
  refine DL_y rfl (y_ldc Try.underlying27 rfl rfl (((S1.blk 0 rfl).cell _).trans (by rfl))) rfl ?_
  refine DL_y rfl (y_len Try.underlying27 rfl) rfl ?_
  refine DL_y rfl (y_move rfl) rfl ?_
  refine DL_y rfl (y_nilp rfl) rfl ?_
  refine DL_y rfl (y_fieldA 1 Try.underlying179 rfl sz3 rfl rfl rfl) rfl ?_
  refine DL_y rfl (y_ldc Try.underlying3 rfl rfl (((S1.blk 0 rfl).cell _).trans (by rfl))) rfl ?_
  refine DL_y rfl (y_sub rfl rfl (i64w (by omega))) rfl ?_
  refine DL_y rfl (y_gtr rfl rfl) rfl ?_
  refine DL_nil ?_
  refine hK3 _ _ ?_
  refine T_cond rfl (fun h17 => ?_) (fun h17 => ?_)
  ·
    have hk : ¬ k ≤ l.length - p := by omega
    refine T_seq fun K4 hK4 => ?_
    refine T_region ?_
    refine L_y (y_move rfl) rfl ?_
    refine L_y (y_nilp rfl) rfl ?_
    refine L_y (y_fieldA 2 Try.underlying179 rfl sz28 rfl rfl rfl) rfl ?_
    refine L_o (o_st1 S1 0 rfl rfl rfl rfl sz28 (by simp; done) fun w2 S2 => ?_)
    refine L_nil ?_
    refine hK4 _ _ ?_
    refine T_seq fun K5 hK5 => ?_
    refine T_region ?_
    refine L_y (y_assign rfl) rfl ?_
    refine L_nil ?_
    refine hK5 _ _ ?_
    refine T_ret ?_
    repeat (first | with_reducible refine up_then ?_ | with_reducible refine up_in ?_)
    refine ret1 rfl rfl ?_
    first | exact ⟨_, rfl, none, 0, (by rw [tkL, if_neg hk]; rfl), (by rw [tkL, if_neg hk]; exact Rs.nil _ _), Rdd.of (S2.turned2 0 1 rfl rfl) (by rw [tkP, tkE, if_neg hk, if_neg hk]; rfl)⟩ | exact ⟨_, rfl, cutA A c p 1, c - p, (by rw [e2]), (by rw [e2, e1]; exact (S2.row 1 rfl).cutb (by omega) (by omega)), Rdd.of (S2.turned2 0 1 rfl rfl) (by rw [tkP, tkE, if_pos hk, if_pos hk]; rfl)⟩
  ·
    have hk : k ≤ l.length - p := by omega
    have e1 : (tkL l p k) = (l.drop p).take (p + k - p) := by rw [tkL, if_pos hk]; congr 1; omega
    have e2 : (tkL l p k).length = p + k - p := by rw [e1, List.length_take, List.length_drop]; omega
    refine T_skip ?_
    refine hK2 _ _ ?_
    refine T_seq fun K6 hK6 => ?_
    refine T_drawnL [(0, true), (1, true), (2, true), (3, true), (4, true), (5, true), (6, true), (7, true), (8, true), (9, true), (10, true), (11, true), (12, true), (13, true), (14, true), (15, true)] hmix (by kernel_rfl) fun w3 l3 => ?_
    have S3 := S1.like l3
    refine DL_y rfl (y_move rfl) rfl ?_
    refine DL_y rfl (y_nilp rfl) rfl ?_
    refine DL_y rfl (y_fieldA 0 Try.underlying179 rfl sz27 rfl rfl rfl) rfl ?_
    refine DL_y rfl (y_ldc Try.underlying27 rfl rfl (((S3.blk 0 rfl).cell _).trans (by rfl))) rfl ?_
    refine DL_y rfl (y_move rfl) rfl ?_
    refine DL_y rfl (y_nilp rfl) rfl ?_
    refine DL_y rfl (y_fieldA 1 Try.underlying179 rfl sz3 rfl rfl rfl) rfl ?_
    refine DL_y rfl (y_ldc Try.underlying3 rfl rfl (((S3.blk 0 rfl).cell _).trans (by rfl))) rfl ?_
    refine DL_y rfl (y_move rfl) rfl ?_
    refine DL_y rfl (y_nilp rfl) rfl ?_
    refine DL_y rfl (y_fieldA 1 Try.underlying179 rfl sz3 rfl rfl rfl) rfl ?_
    refine DL_y rfl (y_ldc Try.underlying3 rfl rfl (((S3.blk 0 rfl).cell _).trans (by rfl))) rfl ?_
    refine DL_y rfl (y_move rfl) rfl ?_
    refine DL_y rfl (y_add rfl rfl (i64w (by omega))) rfl ?_
    refine DL_y rfl (y_slice Try.underlying27 sz5 rfl rfl rfl inferInstance inferInstance (by omega) (by omega)) rfl ?_
    refine DL_y rfl (y_assign rfl) rfl ?_
    refine DL_nil ?_
    refine hK6 _ _ ?_
    refine T_seq fun K7 hK7 => ?_
    refine T_region ?_
    refine L_y (y_move rfl) rfl ?_
    refine L_y (y_nilp rfl) rfl ?_
    refine L_y (y_fieldA 1 Try.underlying179 rfl sz3 rfl rfl rfl) rfl ?_
    refine L_y (y_ldc Try.underlying3 rfl rfl (((S3.blk 0 rfl).cell _).trans (by rfl))) rfl ?_
    refine L_y (y_move rfl) rfl ?_
    refine L_y (y_add rfl rfl (i64w (by omega))) rfl ?_
    refine L_y (y_nilp rfl) rfl ?_
    refine L_y (y_fieldA 1 Try.underlying179 rfl sz3 rfl rfl rfl) rfl ?_
    refine L_o (o_st1 S3 0 rfl rfl rfl rfl sz3 (by simp; done) fun w4 S4 => ?_)
    refine L_nil ?_
    refine hK7 _ _ ?_
    refine T_seq fun K8 hK8 => ?_
    refine T_region ?_
    refine L_y (y_move rfl) rfl ?_
    refine L_y (y_assign rfl) rfl ?_
    refine L_nil ?_
    refine hK8 _ _ ?_
    refine T_ret ?_
    repeat (first | with_reducible refine up_then ?_ | with_reducible refine up_in ?_)
    refine ret1 rfl rfl ?_
    first | exact ⟨_, rfl, none, 0, (by rw [tkL, if_neg hk]; rfl), (by rw [tkL, if_neg hk]; exact Rs.nil _ _), Rdd.of (S4.turned2 0 1 rfl rfl) (by rw [tkP, tkE, if_neg hk, if_neg hk]; rfl)⟩ | exact ⟨_, rfl, cutA A c p 1, c - p, (by rw [e2]), (by rw [e2, e1]; exact (S4.row 1 rfl).cutb (by omega) (by omega)), Rdd.of (S4.turned2 0 1 rfl rfl) (by rw [tkP, tkE, if_pos hk, if_pos hk]; rfl)⟩


set_option maxRecDepth 100000 in
theorem rfail (g : Nat) (A : Option Addr) (n c : Nat) (l : List UInt8) (p q : Nat) (p0 q0 : Nat) (w0 : World) (hw : (rdr g A n c l p q).holds w0) (hp : p ≤ l.length) :
    Calls Try.prog 114 #[.pointer (some ⟨g, 0, none⟩), .int .i64 (p0 : Int), .int .i64 (q0 : Int)] w0 fun e w' => ∃ u, e = .returned u ∧ Turned w0 w' (rdr g A n c l p q) (rdr g A n c l p0 q0) := by
  refine enter1 (env := [(0, .pointer (some ⟨g, 0, none⟩)), (1, .int .i64 (p0 : Int)), (2, .int .i64 (q0 : Int))]) [.pointer (some ⟨g, 0, none⟩), .int .i64 (p0 : Int), .int .i64 (q0 : Int)] Try.func114 rfl Try.ntmps114 rfl rfl ?_
  have hnl := rdr_len hw; have hnc := ownsRow_cap hw.2; have S0 := St.borrow2 (blk g 179 #[.slice A n c, .int .i64 (p : Int), .int .i64 (q : Int)]) (row 5 1 A n c (bL l)) hw.1 hw.2 (rdr_lt hw) (rdr_apart hw)
  refine T_seq fun K1 hK1 => ?_
  refine T_region ?_
  refine L_y (y_move rfl) rfl ?_
  refine L_y (y_move rfl) rfl ?_
  refine L_y (y_nilp rfl) rfl ?_
  refine L_y (y_fieldA 1 Try.underlying179 rfl sz3 rfl rfl rfl) rfl ?_
  refine L_o (o_st1 S0 0 rfl rfl rfl rfl sz3 (by simp; done) fun w1 S1 => ?_)
  refine L_nil ?_
  refine hK1 _ _ ?_
  refine T_region ?_
  refine L_y (y_move rfl) rfl ?_
  refine L_y (y_move rfl) rfl ?_
  refine L_y (y_nilp rfl) rfl ?_
  refine L_y (y_fieldA 2 Try.underlying179 rfl sz28 rfl rfl rfl) rfl ?_
  refine L_o (o_st1 S1 0 rfl rfl rfl rfl sz28 (by simp; done) fun w2 S2 => ?_)
  refine L_nil ?_
  first | refine end0 (fn := Try.f114) rfl ?_ | (simp only [thenQ, inB, if_true]; refine end0 (fn := Try.f114) rfl ?_)
  exact ⟨_, rfl, Rdd.of (S2.turned2 0 1 rfl rfl) rfl⟩


set_option maxRecDepth 100000 in
theorem rnew (B : Option Addr) (m d : Nat) (l : List UInt8) (w0 : World) (hb : Rs w0 1 B m d (bL l)) (hm : m ≤ 70368744177664) :
    Calls Try.prog 71 #[.slice B m d] w0 fun e w' => ∃ u, e = .returned u ∧ Like w0 w' ∧ ∃ g A c, u = .pointer (some ⟨g, 0, none⟩) ∧ (rdr g A m c l 0 0).holds w' ∧ ∀ i, (rdr g A m c l 0 0).dom i → w0.heap.size ≤ i ∧ i < w'.heap.size := by
  refine enter1 (env := [(0, .slice B m d)]) [.slice B m d] Try.func71 rfl Try.ntmps71 rfl rfl ?_
  have S0 := St.start w0 noM
  refine T_seq fun K1 hK1 => ?_
  refine T_region ?_
  refine L_y (y_assign rfl) rfl ?_
  refine L_nil ?_
  refine hK1 _ _ ?_
  refine T_seq fun K2 hK2 => ?_
  refine T_region ?_
  refine L_y (y_move rfl) rfl ?_
  refine L_o (o_app0 te27 S0 rfl rfl (S0.rd hb) (bL_one _) rfl (by omega) (by omega) fun A1 c1 w1 S1 => ?_)
  refine L_y (y_build rfl (show _ = some #[Value.slice A1 m c1, Value.int .i64 0, Value.int .i64 0] by kernel_rfl)) rfl ?_
  refine L_o (o_box rfl S1 rfl fun b2 w2 hb2 S2 => ?_)
  refine L_y (y_assign rfl) rfl ?_
  refine L_nil ?_
  refine hK2 _ _ ?_
  refine T_ret ?_
  repeat (first | with_reducible refine up_then ?_ | with_reducible refine up_in ?_)
  refine ret1 rfl rfl ?_
  exact ⟨_, rfl, S2.like0, _, _, _, rfl, ⟨S2.get 1 rfl, S2.get 0 rfl⟩, fun i hi => by rcases hi with hi | hi; exact fresh_ S2 1 rfl i hi; exact fresh_ S2 0 rfl i hi⟩
end Go.Proofs.Ytgaklngnfecdaaa.Oct


/-
  The Reader: numbers.
-/
namespace Go.Proofs.Ytgaklngnfecdaaa.Oct
open Go.RowKit Zk Zx
set_option linter.unusedVariables false
set_option linter.unusedSimpArgs false

/-- A number of bytes, the highest first. -/
def be (l : List UInt8) : Nat := l.foldl (fun n c => n * 256 + c.toNat) 0
/-- What reading so many bytes gives, where it ends, and what is wrong then. -/
def rwL (l : List UInt8) (p q k : Nat) : List UInt8 := if q = 0 then tkL l p k else []
def rwP (l : List UInt8) (p q k : Nat) : Nat := if q = 0 then tkP l p k else p
def rwE (l : List UInt8) (p q k : Nat) : Nat := if q = 0 then tkE l p k q else q
theorem tkE_ok {l : List UInt8} {p k q : Nat} (h : k ≤ l.length - p) : tkE l p k q = q := by rw [tkE, if_pos h]
theorem tkE_no {l : List UInt8} {p k q : Nat} (h : ¬ k ≤ l.length - p) : tkE l p k q = 10 := by rw [tkE, if_neg h]
theorem tkL_no {l : List UInt8} {p k : Nat} (h : ¬ k ≤ l.length - p) : tkL l p k = [] := by rw [tkL, if_neg h]
theorem be_snoc (l : List UInt8) (c : UInt8) : be (l ++ [c]) = be l * 256 + c.toNat := by simp [be, List.foldl_append]
theorem be_from : ∀ (l : List UInt8) (a : Nat), l.foldl (fun n c => n * 256 + c.toNat) a < (a + 1) * 256 ^ l.length
  | [], a => by simp
  | c :: l, a => by
    have h := be_from l (a * 256 + c.toNat)
    have h2 : (a * 256 + c.toNat + 1) * 256 ^ l.length ≤ (a + 1) * 256 * 256 ^ l.length := Nat.mul_le_mul_right _ (by have := c.toNat_lt; omega)
    rw [List.foldl_cons, List.length_cons, Nat.pow_succ, Nat.mul_comm (256 ^ l.length), ← Nat.mul_assoc]
    omega
theorem be_lt (l : List UInt8) : be l < 256 ^ l.length := by simpa [be] using be_from l 0
theorem be_take {l : List UInt8} {k : Nat} {c : UInt8} (h : l[k]? = some c) : be (l.take (k + 1)) = be (l.take k) * 256 + c.toNat := by
  rw [List.take_add_one, h]
  exact be_snoc _ _
theorem Rdd.turned {w w' : World} {g n c p q p' q' : Nat} {A : Option Addr} {l : List UInt8} (h : Turned w w' (rdr g A n c l p q) (rdr g A n c l p' q')) {p2 q2 : Nat} (hp : p' = p2) (hq : q' = q2) : Turned w w' (rdr g A n c l p q) (rdr g A n c l p2 q2) := by
  subst hp
  subst hq
  exact h


theorem tk_le (l : List UInt8) (p k : Nat) : (tkL l p k).length ≤ k := by unfold tkL; split <;> simp <;> omega
theorem be_bound {t : List UInt8} {k j : Nat} (hk : k < t.length) (ht : t.length ≤ j + 1) : be (t.take k) < 256 ^ j := by
  have h1 := be_lt (t.take k)
  rw [List.length_take, Nat.min_eq_left (by omega)] at h1
  exact Nat.lt_of_lt_of_le h1 (Nat.pow_le_pow_right (by decide) (by omega))
theorem or256 (a : Nat) (x : UInt8) : a * 256 ||| x.toNat = a * 256 + x.toNat := by
  rw [Nat.mul_comm, show (256 : Nat) = 2 ^ 8 from rfl, Nat.two_pow_add_eq_or_of_lt x.toNat_lt]
theorem or32 (a b : Nat) (ha : a < 4294967296) (hb : b < 4294967296) : bits .or .u32 (a : Int) (b : Int) = ((a ||| b : Nat) : Int) := by
  have h : a ||| b < 2 ^ 32 := Nat.or_lt_two_pow ha hb
  show IntKind.u32.wrap ((((BitVec.ofInt 32 (a : Int)) ||| (BitVec.ofInt 32 (b : Int)) : BitVec 32).toNat : Nat) : Int) = _
  rw [BitVec.ofInt_natCast, BitVec.ofInt_natCast, BitVec.toNat_or, BitVec.toNat_ofNat, BitVec.toNat_ofNat]
  rw [Nat.mod_eq_of_lt (by omega), Nat.mod_eq_of_lt (by omega), IntKind.wrap_u32]
  omega
theorem shl8_32 (a : Nat) (h : a < 256 ^ 3) : IntKind.u32.wrap ((a : Int) * 2 ^ (min (8 : Int).toNat IntKind.u32.bits)) = ((a * 256 : Nat) : Int) := by
  rw [show (2 : Int) ^ (min (8 : Int).toNat IntKind.u32.bits) = 256 by decide, IntKind.wrap_u32]
  omega
theorem orbe32 (a : Nat) (x : UInt8) (h : a < 256 ^ 3) : bits .or .u32 ((a * 256 : Nat) : Int) (x.toNat : Int) = ((a * 256 + x.toNat : Nat) : Int) := by
  rw [or32 _ _ (by omega) (by have := x.toNat_lt; omega), or256]
theorem bL_getX {l : List UInt8} {k : Nat} {x : UInt8} (h : l[k]? = some x) : (bL l)[k]? = some (Value.int .u8 (x.toNat : Int)) := bL_get l k x h


/-- What reading so many bytes gives. -/
def rnL (l : List UInt8) (p q : Nat) (m : Int) : List UInt8 := if m < 0 then [] else rwL l p q m.toNat
def rnP (l : List UInt8) (p q : Nat) (m : Int) : Nat := if m < 0 then p else rwP l p q m.toNat
def rnE (l : List UInt8) (p q : Nat) (m : Int) : Nat := if m < 0 then (if q ≠ 0 then q else 3) else rwE l p q m.toNat


theorem rdr_same {g n c p q p' q' : Nat} {A : Option Addr} {l : List UInt8} {i : Nat} (h : (rdr g A n c l p q).dom i) : (rdr g A n c l p' q').dom i := h


set_option maxRecDepth 100000 in
theorem rraw (g : Nat) (A : Option Addr) (n c : Nat) (l : List UInt8) (p q : Nat) (m : Int) (w0 : World) (hw : (rdr g A n c l p q).holds w0) (hp : p ≤ l.length) (hn62 : n ≤ 70368744177664) (hm : m ≤ 9223372036854775807) :
    Calls Try.prog 72 #[.pointer (some ⟨g, 0, none⟩), .int .i64 m] w0 fun e w' => ∃ u, e = .returned u ∧ Turned w0 w' (rdr g A n c l p q) (rdr g A n c l (rnP l p q m) (rnE l p q m)) ∧ ∃ B c2, u = .slice B (rnL l p q m).length c2 ∧ (row 5 1 B (rnL l p q m).length c2 (bL (rnL l p q m))).holds w' ∧ ∀ i, (row 5 1 B (rnL l p q m).length c2 (bL (rnL l p q m))).dom i → w0.heap.size ≤ i := by
  refine enter1 (env := [(0, .pointer (some ⟨g, 0, none⟩)), (1, .int .i64 m)]) [.pointer (some ⟨g, 0, none⟩), .int .i64 m] Try.func72 rfl Try.ntmps72 rfl rfl ?_
  have hnl := rdr_len hw; have hnc := ownsRow_cap hw.2; have S0 := St.borrow1 (rdr g A n c l p q) hw (rdr_lt hw)
  refine T_seq fun K1 hK1 => ?_
  refine T_region ?_
  refine L_y (y_assign rfl) rfl ?_
  refine L_nil ?_
  refine hK1 _ _ ?_
  refine T_seq fun K2 hK2 => ?_
  refine T_seq fun K3 hK3 => ?_
  refine T_region ?_
  refine L_y (y_move rfl) rfl ?_
  refine L_o (o_call Try.func113 rfl rfl (rdead g A n c l p _ w0 (S0.get 0 rfl) hp) rfl rfl ?_)
  rintro e1 w1 ⟨v1, rfl, l1, rfl⟩
  refine ⟨_, rfl, ?_⟩
  have S1 := S0.like l1
  refine L_nil ?_
  refine hK3 _ _ ?_
  refine T_cond rfl (fun h6 => ?_) (fun h6 => ?_)
  ·
    refine T_seq fun K4 hK4 => ?_
    refine T_region ?_
    refine L_y (y_assign rfl) rfl ?_
    refine L_nil ?_
    refine hK4 _ _ ?_
    refine T_ret ?_
    repeat (first | with_reducible refine up_then ?_ | with_reducible refine up_in ?_)
    refine ret1 rfl rfl ?_
    have e1 : rnL l p q m = [] := by unfold rnL rwL; split; rfl; rw [if_neg (by omega)]
    have e2 : rnP l p q m = p := by unfold rnP rwP; split; rfl; rw [if_neg (by omega)]
    have e3 : rnE l p q m = q := by unfold rnE rwE; split; rw [if_pos (by omega)]; rw [if_neg (by omega)]
    exact ⟨_, rfl, by rw [e2, e3]; exact S1.turned1 0 rfl, none, 0, by rw [e1]; rfl, by rw [e1]; exact ⟨by simp [bL], .inl ⟨rfl, rfl⟩⟩, fun i hi => by rw [e1] at hi; simp [row, Value.ownBlock] at hi⟩
  ·
    have hq : q = 0 := by omega
    subst hq
    refine T_skip ?_
    refine hK2 _ _ ?_
    refine T_seq fun K5 hK5 => ?_
    refine T_seq fun K6 hK6 => ?_
    refine T_region ?_
    refine L_y (y_move rfl) rfl ?_
    refine L_y (y_lss rfl rfl) rfl ?_
    refine L_nil ?_
    refine hK6 _ _ ?_
    refine T_cond rfl (fun h8 => ?_) (fun h8 => ?_)
    ·
      refine T_seq fun K7 hK7 => ?_
      refine T_region ?_
      refine L_y (y_move rfl) rfl ?_
      refine L_y (y_move rfl) rfl ?_
      refine L_y (y_nilp rfl) rfl ?_
      refine L_y (y_fieldA 1 Try.underlying179 rfl sz3 rfl rfl rfl) rfl ?_
      refine L_y (y_ldc Try.underlying3 rfl rfl (((S1.get 0 rfl).1.cell _).trans (by rfl))) rfl ?_
      refine L_o (o_call Try.func114 rfl rfl (rfail g A n c l _ _ p 3 w1 (S1.get 0 rfl) hp) rfl rfl ?_)
      rintro e2 w2 ⟨v2, rfl, T2⟩
      refine ⟨_, rfl, ?_⟩
      have S2 := S1.turn 0 rfl T2
      refine L_nil ?_
      refine hK7 _ _ ?_
      refine T_seq fun K8 hK8 => ?_
      refine T_region ?_
      refine L_y (y_assign rfl) rfl ?_
      refine L_nil ?_
      refine hK8 _ _ ?_
      refine T_ret ?_
      repeat (first | with_reducible refine up_then ?_ | with_reducible refine up_in ?_)
      refine ret1 rfl rfl ?_
      have e1 : rnL l p 0 m = [] := by rw [rnL, if_pos (by omega)]
      have e2 : rnP l p 0 m = p := by rw [rnP, if_pos (by omega)]
      have e3 : rnE l p 0 m = 3 := by rw [rnE, if_pos (by omega)]; rfl
      exact ⟨_, rfl, by rw [e2, e3]; exact S2.turned1 0 rfl, none, 0, by rw [e1]; rfl, by rw [e1]; exact ⟨by simp [bL], .inl ⟨rfl, rfl⟩⟩, fun i hi => by rw [e1] at hi; simp [row, Value.ownBlock] at hi⟩
    ·
      obtain ⟨k, rfl⟩ : ∃ k : Nat, m = (k : Int) := ⟨m.toNat, by omega⟩
      refine T_skip ?_
      refine hK5 _ _ ?_
      refine T_seq fun K9 hK9 => ?_
      refine T_region ?_
      refine L_y (y_move rfl) rfl ?_
      refine L_y (y_move rfl) rfl ?_
      refine L_o (o_call Try.func115 rfl rfl (rtake g A n c l p _ k w1 (S1.get 0 rfl) hp (by omega) (by omega)) rfl rfl ?_)
      rintro e3 w3 ⟨v3, rfl, B3, d3, rfl, RR, T3⟩
      refine ⟨_, rfl, ?_⟩
      have S3 := S1.turn 0 rfl T3
      have htl := tk_le l p k
      have htn : (tkL l p k).length ≤ l.length := by unfold tkL; split; simp; omega; simp
      refine L_o (o_app0 te27 S3 rfl rfl (RR) (bL_one _) rfl (by omega) (by omega) fun A4 c4 w4 S4 => ?_)
      refine L_y (y_assign rfl) rfl ?_
      refine L_nil ?_
      refine hK9 _ _ ?_
      refine T_ret ?_
      repeat (first | with_reducible refine up_then ?_ | with_reducible refine up_in ?_)
      refine ret1 rfl rfl ?_
      have e1 : rnL l p 0 (k : Int) = tkL l p k := by rw [rnL, if_neg (by omega), rwL, if_pos rfl, Int.toNat_natCast]
      have e2 : rnP l p 0 (k : Int) = tkP l p k := by rw [rnP, if_neg (by omega), rwP, if_pos rfl, Int.toNat_natCast]
      have e3 : rnE l p 0 (k : Int) = tkE l p k 0 := by rw [rnE, if_neg (by omega), rwE, if_pos rfl, Int.toNat_natCast]
      exact ⟨_, rfl, by rw [e2, e3]; exact S4.turned1 0 rfl, _, _, by rw [e1], by rw [e1]; exact S4.get 1 rfl, fun i hi => by rw [e1] at hi; have h9 := (S4.res _ (List.mem_of_getElem? (show _ = some _ from (rfl : [rdr g A n c l (tkP l p k) (tkE l p k 0), _][1]? = some _)))).2 i hi; rcases h9.2 with h9 | h9; exact h9; exact absurd hi (St.apart_ S4 0 1 rfl rfl rfl i (rdr_same h9))⟩


set_option maxRecDepth 100000 in
theorem ru32 (g : Nat) (A : Option Addr) (n c : Nat) (l : List UInt8) (p q : Nat) (w0 : World) (hw : (rdr g A n c l p q).holds w0) (hp : p ≤ l.length) (hn62 : n ≤ 4611686018427387904) :
    Calls Try.prog 73 #[.pointer (some ⟨g, 0, none⟩)] w0 fun e w' => ∃ u, e = .returned u ∧ u = .int .u32 (be (rwL l p q 4) : Int) ∧ Turned w0 w' (rdr g A n c l p q) (rdr g A n c l (rwP l p q 4) (rwE l p q 4)) := by
  refine enter1 (env := [(0, .pointer (some ⟨g, 0, none⟩))]) [.pointer (some ⟨g, 0, none⟩)] Try.func73 rfl Try.ntmps73 rfl rfl ?_
  have hnl := rdr_len hw; have hnc := ownsRow_cap hw.2; have S0 := St.borrow1 (rdr g A n c l p q) hw (rdr_lt hw)
  refine T_seq fun K1 hK1 => ?_
  refine T_region ?_
  refine L_y (y_assign rfl) rfl ?_
  refine L_nil ?_
  refine hK1 _ _ ?_
  refine T_seq fun K2 hK2 => ?_
  refine T_seq fun K3 hK3 => ?_
  refine T_region ?_
  refine L_y (y_move rfl) rfl ?_
  refine L_o (o_call Try.func113 rfl rfl (rdead g A n c l p _ w0 (S0.get 0 rfl) hp) rfl rfl ?_)
  rintro e1 w1 ⟨v1, rfl, l1, rfl⟩
  refine ⟨_, rfl, ?_⟩
  have S1 := S0.like l1
  refine L_nil ?_
  refine hK3 _ _ ?_
  refine T_cond rfl (fun h7 => ?_) (fun h7 => ?_)
  ·
    refine T_seq fun K4 hK4 => ?_
    refine T_region ?_
    refine L_y (y_assign rfl) rfl ?_
    refine L_nil ?_
    refine hK4 _ _ ?_
    refine T_ret ?_
    repeat (first | with_reducible refine up_then ?_ | with_reducible refine up_in ?_)
    refine ret1 rfl rfl ?_
    first | exact ⟨_, rfl, by rw [rwL, if_neg (by omega)]; rfl, Rdd.turned (S1.turned1 0 rfl) (by rw [rwP, if_neg (by omega)]) (by rw [rwE, if_neg (by omega)])⟩ | exact ⟨_, rfl, by rw [rwL, if_pos rfl, List.take_length], Rdd.turned (S1.turned1 0 rfl) rfl rfl⟩
  ·
    have hq : q = 0 := by omega
    subst hq
    refine T_skip ?_
    refine hK2 _ _ ?_
    refine T_seq fun K5 hK5 => ?_
    refine T_region ?_
    refine L_y (y_assign rfl) rfl ?_
    refine L_nil ?_
    refine hK5 _ _ ?_
    refine T_seq fun K6 hK6 => ?_
    refine T_seq fun K7 hK7 => ?_
    refine T_region ?_
    refine L_y (y_move rfl) rfl ?_
    refine L_o (o_call Try.func115 rfl rfl (rtake g A n c l p _ 4 w1 (S1.get 0 rfl) hp (by omega) hn62) rfl rfl ?_)
    rintro e2 w2 ⟨v2, rfl, B2, d2, rfl, R2, T2⟩
    refine ⟨_, rfl, ?_⟩
    have S2 := S1.turn 0 rfl T2
    have RR := R2
    refine L_y (y_len Try.underlying27 rfl) rfl ?_
    refine L_y (y_move rfl) rfl ?_
    refine L_nil ?_
    refine hK7 _ _ ?_
    refine T_block ?_
    refine T_loop1 [(9, _), (10, _)] (fun (k : Nat) => [(3, .int .u32 (be ((tkL l p 4).take k) : Int)), (11, .int .i64 (k : Int))]) (fun (k : Nat) => (tkL l p 4).length - k) (fun (k : Nat) (w : World) => (k ≤ (tkL l p 4).length ∧ Rs w 1 B2 (tkL l p 4).length d2 (bL (tkL l p 4))) ∧ St w0 (rdr g A n c l p 0).dom [rdr g A n c l (tkP l p 4) (tkE l p 4 0)] w) 0 (Sub.cons rfl (by first | rfl | exact congrArg (Value.int _) (by omega)) (Sub.cons rfl (by first | rfl | exact congrArg (Value.int _) (by omega)) (Sub.nil _))) (Sub.cons rfl rfl (Sub.cons rfl rfl (Sub.nil _))) ?_ ?_
    ·
      exact ⟨⟨Nat.zero_le _, RR⟩, S2⟩
    ·
      intro k w3 hrel
      obtain ⟨⟨hk, RX⟩, S3⟩ := hrel
      have htl := tk_le l p 4
      refine T_seq fun K8 hK8 => ?_
      refine T_region ?_
      refine L_y (y_lss rfl rfl) rfl ?_
      refine L_nil ?_
      refine hK8 _ _ ?_
      refine T_seq fun K9 hK9 => ?_
      refine T_cond rfl (fun h12 => ?_) (fun h12 => ?_)
      ·
        obtain ⟨x, hx⟩ : ∃ x, (tkL l p 4)[k]? = some x := ⟨_, List.getElem?_eq_getElem (by omega)⟩
        have hxl := x.toNat_lt
        have hbb := be_bound (k := k) (j := 3) (show k < (tkL l p 4).length by omega) htl
        refine T_skip ?_
        refine hK9 _ _ ?_
        refine T_seq fun K10 hK10 => ?_
        refine T_block ?_
        refine T_seq fun K11 hK11 => ?_
        refine T_region ?_
        refine L_y (y_idx Try.underlying27 sz5 rfl rfl (RX) inferInstance (by omega)) rfl ?_
        refine L_y (y_ldr Try.underlying5 rfl rfl RX (bL_getX hx)) rfl ?_
        refine L_y (y_assign rfl) rfl ?_
        refine L_nil ?_
        refine hK11 _ _ ?_
        refine T_region ?_
        refine L_y (y_move rfl) rfl ?_
        refine L_y (y_shl rfl rfl (by omega) (shl8_32 _ hbb)) rfl ?_
        refine L_y (y_move rfl) rfl ?_
        refine L_y (y_conv is5 Try.underlying60 rfl (u32w (by omega))) rfl ?_
        refine L_y (y_bits rfl rfl rfl (orbe32 _ _ hbb)) rfl ?_
        refine L_y (y_assign rfl) rfl ?_
        refine L_nil ?_
        refine hK10 _ _ ?_
        refine T_region ?_
        refine L_y (y_add rfl rfl (i64w (by omega))) rfl ?_
        refine L_y (y_move rfl) rfl ?_
        refine L_nil ?_
        refine ⟨k + 1, by omega, ⟨⟨by omega, RX⟩, S3⟩, ?_⟩
        exact (Sub.cons rfl (congrArg (Value.int _) (by rw [be_take hx])) (Sub.cons rfl (by first | rfl | exact congrArg (Value.int _) (by omega)) (Sub.cons rfl rfl (Sub.cons rfl rfl (Sub.nil _)))))
      ·
        have hke : k = (tkL l p 4).length := by omega
        subst hke
        refine T_exit ?_
        refine hK6 _ _ ?_
        refine T_seq fun K12 hK12 => ?_
        refine T_region ?_
        refine L_y (y_move rfl) rfl ?_
        refine L_y (y_assign rfl) rfl ?_
        refine L_nil ?_
        refine hK12 _ _ ?_
        refine T_ret ?_
        repeat (first | with_reducible refine up_then ?_ | with_reducible refine up_in ?_)
        refine ret1 rfl rfl ?_
        first | exact ⟨_, rfl, by rw [rwL, if_neg (by omega)]; rfl, Rdd.turned (S3.turned1 0 rfl) (by rw [rwP, if_neg (by omega)]) (by rw [rwE, if_neg (by omega)])⟩ | exact ⟨_, rfl, by rw [rwL, if_pos rfl, List.take_length], Rdd.turned (S3.turned1 0 rfl) rfl rfl⟩


end Go.Proofs.Ytgaklngnfecdaaa.Oct


/-
  Numbers by sevens: what is read is what is written, and the other way round.
-/
namespace Go.Proofs.Ytgaklngnfecdaaa.Oct
open Go.RowKit Zk Zx
set_option linter.unusedVariables false
end Go.Proofs.Ytgaklngnfecdaaa.Oct


/-
  The document: the Reader.
-/
namespace Go.Proofs.Ytgaklngnfecdaaa.Oct
open Go.RowKit Zk Zx
set_option linter.unusedVariables false
set_option linter.unusedSimpArgs false

/-- The document's Reader at block g. -/
def xr (g : Nat) (A : Option Addr) (n c p q : Nat) : Res := blk g 140 #[.slice A n c, .int .i64 (p : Int), .int .i64 (q : Int)]
theorem xr_lt {w : World} {g n c p q : Nat} {A : Option Addr} (h : (xr g A n c p q).holds w) : ∀ i, (xr g A n c p q).dom i → i < w.heap.size := fun i hi => by
  have hi' : i = g := hi
  subst hi'
  exact Blk.lt h
/-- A reading of old memory that the call does not write to. -/
theorem St.rdM {w0 w : World} {M : Nat → Prop} {rs : List Res} (S : St w0 M rs w) {size n c : Nat} {A : Option Addr} {xs : List Value} (h : Rs w0 size A n c xs) (hM : ∀ ad, 0 < n → A = some ad → ¬ M ad.block) : Rs w size A n c xs :=
  (fixed size A n c xs).stable w0 w (fun i ⟨ad, hn, hA, hi⟩ => by
    subst hi
    obtain ⟨ad', hA', hb, _⟩ := h.rd.2 hn
    rw [hA] at hA'
    cases hA'
    exact S.old _ hb (hM ad hn hA)) h
theorem xr_of {w w' : World} {g n c p' q' : Nat} {A : Option Addr} {r : Res} {X : Array Value} (h : Turned w w' r (blk g 140 X)) (hX : X = #[.slice A n c, .int .i64 (p' : Int), .int .i64 (q' : Int)]) : Turned w w' r (xr g A n c p' q') := by
  subst hX
  exact h
theorem new_of {w0 w : World} {M : Nat → Prop} {rs : List Res} (S : St w0 M rs w) (k : Nat) {s : Res} (hk : rs[k]? = some s) (hM : ∀ i, M i → ¬ s.dom i) : ∀ i, s.dom i → w0.heap.size ≤ i := fun i hi => by
  have h := ((S.res _ (List.mem_of_getElem? hk)).2 i hi).2
  rcases h with h | h
  · exact h
  · exact absurd hi (hM i h)
theorem rn_nat (l : List UInt8) (p q k : Nat) : rnL l p q (k : Int) = rwL l p q k ∧ rnP l p q (k : Int) = rwP l p q k ∧ rnE l p q (k : Int) = rwE l p q k :=
  ⟨by rw [rnL, if_neg (by omega), Int.toNat_natCast], by rw [rnP, if_neg (by omega), Int.toNat_natCast], by rw [rnE, if_neg (by omega), Int.toNat_natCast]⟩
theorem rw_dead {l : List UInt8} {p q k : Nat} (h : q ≠ 0) : rwL l p q k = [] ∧ rwP l p q k = p ∧ rwE l p q k = q := ⟨by rw [rwL, if_neg h], by rw [rwP, if_neg h], by rw [rwE, if_neg h]⟩
theorem rn_dead {l : List UInt8} {p q : Nat} {m : Int} (h : q ≠ 0) : rnL l p q m = [] ∧ rnP l p q m = p ∧ rnE l p q m = q := by
  obtain ⟨h1, h2, h3⟩ := rw_dead (l := l) (p := p) (k := m.toNat) h
  refine ⟨?_, ?_, ?_⟩
  · rw [rnL]; split; rfl; exact h1
  · rw [rnP]; split; rfl; exact h2
  · by_cases hm : m < 0; rw [rnE, if_pos hm, if_pos h]; rw [rnE, if_neg hm]; exact h3
theorem rn_neg {l : List UInt8} {p : Nat} {m : Int} (h : m < 0) : rnL l p 0 m = [] ∧ rnP l p 0 m = p ∧ rnE l p 0 m = 3 := ⟨by rw [rnL, if_pos h], by rw [rnP, if_pos h], by rw [rnE, if_pos h]; rfl⟩
theorem rn_no {l : List UInt8} {p k : Nat} (h : ¬ k ≤ l.length - p) : rnL l p 0 (k : Int) = [] ∧ rnP l p 0 (k : Int) = p ∧ rnE l p 0 (k : Int) = 10 := by
  obtain ⟨e1, e2, e3⟩ := rn_nat l p 0 k
  exact ⟨by rw [e1, rwL, if_pos rfl, tkL_no h], by rw [e2, rwP, if_pos rfl, tkP, if_neg h], by rw [e3, rwE, if_pos rfl, tkE_no h]⟩
theorem rn_ok {l : List UInt8} {p k : Nat} (h : k ≤ l.length - p) : rnL l p 0 (k : Int) = (l.drop p).take k ∧ rnP l p 0 (k : Int) = p + k ∧ rnE l p 0 (k : Int) = 0 := by
  obtain ⟨e1, e2, e3⟩ := rn_nat l p 0 k
  exact ⟨by rw [e1, rwL, if_pos rfl, tkL, if_pos h], by rw [e2, rwP, if_pos rfl, tkP, if_pos h], by rw [e3, rwE, if_pos rfl, tkE_ok h]⟩


set_option maxRecDepth 100000 in
theorem xraw (g : Nat) (A : Option Addr) (n c : Nat) (l : List UInt8) (p q : Nat) (m : Int) (w0 : World) (hw : (xr g A n c p q).holds w0) (hb : Rs w0 1 A n c (bL l)) (hp : p ≤ l.length) (hn62 : n ≤ 70368744177664) (hbg : ∀ ad, 0 < n → A = some ad → ad.block ≠ g) (hm : m ≤ 9223372036854775807) :
    Calls Try.prog 120 #[.pointer (some ⟨g, 0, none⟩), .int .i64 m] w0 fun e w' => ∃ u, e = .returned u ∧ Turned w0 w' (xr g A n c p q) (xr g A n c (rnP l p q m) (rnE l p q m)) ∧ ∃ B c2, u = .slice B (rnL l p q m).length c2 ∧ (row 5 1 B (rnL l p q m).length c2 (bL (rnL l p q m))).holds w' ∧ ∀ i, (row 5 1 B (rnL l p q m).length c2 (bL (rnL l p q m))).dom i → w0.heap.size ≤ i := by
  refine enter1 (env := [(0, .pointer (some ⟨g, 0, none⟩)), (1, .int .i64 m)]) [.pointer (some ⟨g, 0, none⟩), .int .i64 m] Try.func120 rfl Try.ntmps120 rfl rfl ?_
  have hnl := hb.lenb; have hcap := hb.cap; have hmx := hb.max; have S0 := St.borrow1 (blk g 140 #[.slice A n c, .int .i64 (p : Int), .int .i64 (q : Int)]) hw (xr_lt hw)
  refine T_seq fun K1 hK1 => ?_
  refine T_region ?_
  refine L_y (y_assign rfl) rfl ?_
  refine L_nil ?_
  refine hK1 _ _ ?_
  refine T_seq fun K2 hK2 => ?_
  refine T_seq fun K3 hK3 => ?_
  refine T_region ?_
  refine L_y (y_move rfl) rfl ?_
  refine L_y (y_nilp rfl) rfl ?_
  refine L_y (y_fieldA 2 Try.underlying140 rfl sz3 rfl rfl rfl) rfl ?_
  refine L_y (y_ldc Try.underlying3 rfl rfl (((S0.blk 0 rfl).cell _).trans (by rfl))) rfl ?_
  refine L_y (y_neq rfl rfl) rfl ?_
  refine L_nil ?_
  refine hK3 _ _ ?_
  refine T_cond rfl (fun h10 => ?_) (fun h10 => ?_)
  ·
    refine T_seq fun K4 hK4 => ?_
    refine T_region ?_
    refine L_y (y_assign rfl) rfl ?_
    refine L_nil ?_
    refine hK4 _ _ ?_
    refine T_ret ?_
    repeat (first | with_reducible refine up_then ?_ | with_reducible refine up_in ?_)
    refine ret1 rfl rfl ?_
    obtain ⟨e1, e2, e3⟩ := rn_dead (l := l) (p := p) (m := m) (show q ≠ 0 by omega)
    exact ⟨_, rfl, by rw [e2, e3]; exact xr_of (S0.turned1 0 rfl) rfl, none, 0, by rw [e1]; rfl, by rw [e1]; exact ⟨by simp [bL], .inl ⟨rfl, rfl⟩⟩, fun i hi => by rw [e1] at hi; simp [row, Value.ownBlock] at hi⟩
  ·
    have hq : q = 0 := by omega
    subst hq
    refine T_skip ?_
    refine hK2 _ _ ?_
    refine T_seq fun K5 hK5 => ?_
    refine T_seq fun K6 hK6 => ?_
    refine T_region ?_
    refine L_y (y_move rfl) rfl ?_
    refine L_y (y_lss rfl rfl) rfl ?_
    refine L_nil ?_
    refine hK6 _ _ ?_
    refine T_cond rfl (fun h12 => ?_) (fun h12 => ?_)
    ·
      refine T_seq fun K7 hK7 => ?_
      refine T_region ?_
      refine L_y (y_move rfl) rfl ?_
      refine L_y (y_nilp rfl) rfl ?_
      refine L_y (y_fieldA 2 Try.underlying140 rfl sz3 rfl rfl rfl) rfl ?_
      refine L_o (o_st1 S0 0 rfl rfl rfl rfl sz3 (by simp; done) fun w1 S1 => ?_)
      refine L_nil ?_
      refine hK7 _ _ ?_
      refine T_seq fun K8 hK8 => ?_
      refine T_region ?_
      refine L_y (y_assign rfl) rfl ?_
      refine L_nil ?_
      refine hK8 _ _ ?_
      refine T_ret ?_
      repeat (first | with_reducible refine up_then ?_ | with_reducible refine up_in ?_)
      refine ret1 rfl rfl ?_
      obtain ⟨e1, e2, e3⟩ := rn_neg (l := l) (p := p) (m := m) (by omega)
      exact ⟨_, rfl, by rw [e2, e3]; exact xr_of (S1.turned1 0 rfl) rfl, none, 0, by rw [e1]; rfl, by rw [e1]; exact ⟨by simp [bL], .inl ⟨rfl, rfl⟩⟩, fun i hi => by rw [e1] at hi; simp [row, Value.ownBlock] at hi⟩
    ·
      obtain ⟨k, rfl⟩ : ∃ k : Nat, m = (k : Int) := ⟨m.toNat, by omega⟩
      refine T_skip ?_
      refine hK5 _ _ ?_
      refine T_seq fun K9 hK9 => ?_
      refine T_seq fun K10 hK10 => ?_
      refine T_drawnL [(0, true), (1, true), (2, true), (3, true), (4, true), (5, true), (6, true), (7, true), (8, true), (9, true), (10, true), (11, true)] hmix (by kernel_rfl) fun w2 l2 => ?_
      have S2 := S0.like l2
      refine DL_y rfl (y_move rfl) rfl ?_
      refine DL_y rfl (y_move rfl) rfl ?_
      refine DL_y rfl (y_nilp rfl) rfl ?_
      refine DL_y rfl (y_fieldA 0 Try.underlying140 rfl sz27 rfl rfl rfl) rfl ?_
      refine DL_y rfl (y_ldc Try.underlying27 rfl rfl (((S2.blk 0 rfl).cell _).trans (by rfl))) rfl ?_
      refine DL_y rfl (y_len Try.underlying27 rfl) rfl ?_
      refine DL_y rfl (y_move rfl) rfl ?_
      refine DL_y rfl (y_nilp rfl) rfl ?_
      refine DL_y rfl (y_fieldA 1 Try.underlying140 rfl sz3 rfl rfl rfl) rfl ?_
      refine DL_y rfl (y_ldc Try.underlying3 rfl rfl (((S2.blk 0 rfl).cell _).trans (by rfl))) rfl ?_
      refine DL_y rfl (y_sub rfl rfl (i64w (by omega))) rfl ?_
      refine DL_y rfl (y_gtr rfl rfl) rfl ?_
      refine DL_nil ?_
      refine hK10 _ _ ?_
      refine T_cond rfl (fun h27 => ?_) (fun h27 => ?_)
      ·
        refine T_seq fun K11 hK11 => ?_
        refine T_region ?_
        refine L_y (y_move rfl) rfl ?_
        refine L_y (y_nilp rfl) rfl ?_
        refine L_y (y_fieldA 2 Try.underlying140 rfl sz3 rfl rfl rfl) rfl ?_
        refine L_o (o_st1 S2 0 rfl rfl rfl rfl sz3 (by simp; done) fun w3 S3 => ?_)
        refine L_nil ?_
        refine hK11 _ _ ?_
        refine T_seq fun K12 hK12 => ?_
        refine T_region ?_
        refine L_y (y_assign rfl) rfl ?_
        refine L_nil ?_
        refine hK12 _ _ ?_
        refine T_ret ?_
        repeat (first | with_reducible refine up_then ?_ | with_reducible refine up_in ?_)
        refine ret1 rfl rfl ?_
        obtain ⟨e1, e2, e3⟩ := rn_no (l := l) (p := p) (k := k) (by omega)
        exact ⟨_, rfl, by rw [e2, e3]; exact xr_of (S3.turned1 0 rfl) rfl, none, 0, by rw [e1]; rfl, by rw [e1]; exact ⟨by simp [bL], .inl ⟨rfl, rfl⟩⟩, fun i hi => by rw [e1] at hi; simp [row, Value.ownBlock] at hi⟩
      ·
        refine T_skip ?_
        refine hK9 _ _ ?_
        refine T_seq fun K13 hK13 => ?_
        refine T_region ?_
        have S4 := S2.nilrow 5 1
        refine L_y (y_assign rfl) rfl ?_
        refine L_nil ?_
        refine hK13 _ _ ?_
        refine T_seq fun K14 hK14 => ?_
        refine T_tail 16 hmix (by kernel_rfl) fun w5 l5 K15 hK15 => ?_
        have S5 := S4.like l5
        refine HL_y (y_move rfl) rfl ?_
        refine HL_y (y_move rfl) rfl ?_
        refine HL_y (y_nilp rfl) rfl ?_
        refine HL_y (y_fieldA 0 Try.underlying140 rfl sz27 rfl rfl rfl) rfl ?_
        refine HL_y (y_ldc Try.underlying27 rfl rfl (((S5.blk 0 rfl).cell _).trans (by rfl))) rfl ?_
        refine HL_y (y_move rfl) rfl ?_
        refine HL_y (y_nilp rfl) rfl ?_
        refine HL_y (y_fieldA 1 Try.underlying140 rfl sz3 rfl rfl rfl) rfl ?_
        refine HL_y (y_ldc Try.underlying3 rfl rfl (((S5.blk 0 rfl).cell _).trans (by rfl))) rfl ?_
        refine HL_y (y_move rfl) rfl ?_
        refine HL_y (y_nilp rfl) rfl ?_
        refine HL_y (y_fieldA 1 Try.underlying140 rfl sz3 rfl rfl rfl) rfl ?_
        refine HL_y (y_ldc Try.underlying3 rfl rfl (((S5.blk 0 rfl).cell _).trans (by rfl))) rfl ?_
        refine HL_y (y_move rfl) rfl ?_
        refine HL_y (y_add rfl rfl (i64w (by omega))) rfl ?_
        refine HL_y (y_slice Try.underlying27 sz5 rfl rfl rfl inferInstance inferInstance (by omega) (by omega)) rfl ?_
        refine HL_nil ?_
        refine hK15 _ ?_
        refine L_o (o_app te27 S5 1 rfl rfl rfl (((S5.rdM hb hbg).cutb (l := p) (u := p + k) (by omega) (by omega))) (bL_one _) rfl (by omega) (by omega) fun A6 c6 w6 S6 => ?_)
        refine L_y (y_assign rfl) rfl ?_
        refine L_nil ?_
        refine hK14 _ _ ?_
        refine T_seq fun K16 hK16 => ?_
        refine T_region ?_
        refine L_y (y_move rfl) rfl ?_
        refine L_y (y_move rfl) rfl ?_
        refine L_y (y_nilp rfl) rfl ?_
        refine L_y (y_fieldA 1 Try.underlying140 rfl sz3 rfl rfl rfl) rfl ?_
        refine L_y (y_ldc Try.underlying3 rfl rfl (((S6.blk 0 rfl).cell _).trans (by rfl))) rfl ?_
        refine L_y (y_move rfl) rfl ?_
        refine L_y (y_add rfl rfl (i64w (by omega))) rfl ?_
        refine L_y (y_nilp rfl) rfl ?_
        refine L_y (y_fieldA 1 Try.underlying140 rfl sz3 rfl rfl rfl) rfl ?_
        refine L_o (o_st1 S6 0 rfl rfl rfl rfl sz3 (by simp; done) fun w7 S7 => ?_)
        refine L_nil ?_
        refine hK16 _ _ ?_
        refine T_seq fun K17 hK17 => ?_
        refine T_region ?_
        refine L_y (y_move rfl) rfl ?_
        refine L_y (y_assign rfl) rfl ?_
        refine L_nil ?_
        refine hK17 _ _ ?_
        refine T_ret ?_
        repeat (first | with_reducible refine up_then ?_ | with_reducible refine up_in ?_)
        refine ret1 rfl rfl ?_
        obtain ⟨e1, e2, e3⟩ := rn_ok (l := l) (p := p) (k := k) (by omega)
        have e4 : p + k - p = k := by omega
        have e5 : (rnL l p 0 (k : Int)).length = 0 + (p + k - p) := by rw [e1, List.length_take, List.length_drop]; omega
        have S99 := S7.rowc 1 rfl (n' := (rnL l p 0 (k : Int)).length) (xs' := bL (rnL l p 0 (k : Int))) e5.symm (by rw [e1, e4]; rfl)
        refine ⟨_, rfl, by rw [e2, e3]; exact xr_of (S99.turned1 0 rfl) rfl, _, _, by rw [e5], S99.get 1 rfl, new_of S99 1 rfl (fun i hi => St.apart_ S99 0 1 rfl rfl rfl i hi)⟩


theorem rw_le (l : List UInt8) (p q k : Nat) : (rwL l p q k).length ≤ k := by
  unfold rwL
  split
  · exact tk_le l p k
  · simp


set_option maxRecDepth 100000 in
theorem xbig (g : Nat) (A : Option Addr) (n c : Nat) (l : List UInt8) (p q : Nat) (j : Nat) (w0 : World) (hw : (xr g A n c p q).holds w0) (hb : Rs w0 1 A n c (bL l)) (hp : p ≤ l.length) (hn62 : n ≤ 70368744177664) (hbg : ∀ ad, 0 < n → A = some ad → ad.block ≠ g) (hj : j ≤ 8) :
    Calls Try.prog 77 #[.pointer (some ⟨g, 0, none⟩), .int .i64 (j : Int)] w0 fun e w' => ∃ u, e = .returned u ∧ u = .int .u64 (be (rwL l p q j) : Int) ∧ Turned w0 w' (xr g A n c p q) (xr g A n c (rwP l p q j) (rwE l p q j)) := by
  refine enter1 (env := [(0, .pointer (some ⟨g, 0, none⟩)), (1, .int .i64 (j : Int))]) [.pointer (some ⟨g, 0, none⟩), .int .i64 (j : Int)] Try.func77 rfl Try.ntmps77 rfl rfl ?_
  have hnl := hb.lenb; have hcap := hb.cap; have hmx := hb.max; have S0 := St.borrow1 (blk g 140 #[.slice A n c, .int .i64 (p : Int), .int .i64 (q : Int)]) hw (xr_lt hw)
  refine T_seq fun K1 hK1 => ?_
  refine T_region ?_
  refine L_y (y_assign rfl) rfl ?_
  refine L_nil ?_
  refine hK1 _ _ ?_
  refine T_seq fun K2 hK2 => ?_
  refine T_region ?_
  refine L_y (y_move rfl) rfl ?_
  refine L_y (y_move rfl) rfl ?_
  refine L_o (o_call Try.func120 rfl rfl (xraw g A n c l p q (j : Int) w0 (S0.get 0 rfl) hb hp hn62 hbg (by omega)) rfl rfl ?_)
  rintro e1 w1 ⟨v1, rfl, T1, B9, d9, rfl, hr1, hd1⟩
  refine ⟨_, rfl, ?_⟩
  have S1 := S0.turn 0 rfl T1
  obtain ⟨e1, e2, e3⟩ := rn_nat l p q j
  have HR := rs_of_row hr1
  rw [show (rnL l p q (j : Int)).length = (rwL l p q j).length from congrArg _ e1, show bL (rnL l p q (j : Int)) = bL (rwL l p q j) from congrArg _ e1] at HR
  rw [show (Value.slice B9 (rnL l p q (j : Int)).length d9) = Value.slice B9 (rwL l p q j).length d9 by rw [e1]]
  rw [e2, e3] at S1
  have htl := rw_le l p q j
  refine L_y (y_assign rfl) rfl ?_
  refine L_nil ?_
  refine hK2 _ _ ?_
  refine T_seq fun K3 hK3 => ?_
  refine T_region ?_
  refine L_y (y_assign rfl) rfl ?_
  refine L_nil ?_
  refine hK3 _ _ ?_
  refine T_seq fun K4 hK4 => ?_
  refine T_seq fun K5 hK5 => ?_
  refine T_region ?_
  refine L_y (y_assign rfl) rfl ?_
  refine L_nil ?_
  refine hK5 _ _ ?_
  refine T_block ?_
  refine T_loop1 [(5, _)] (fun (k : Nat) => [(6, .int .u64 (be ((rwL l p q j).take k) : Int)), (7, .int .i64 (k : Int))]) (fun (k : Nat) => (rwL l p q j).length - k) (fun (k : Nat) (w : World) => (k ≤ (rwL l p q j).length ∧ Rs w 1 B9 (rwL l p q j).length d9 (bL (rwL l p q j))) ∧ St w0 (xr g A n c p q).dom [xr g A n c (rwP l p q j) (rwE l p q j)] w) 0 (Sub.cons rfl (by first | rfl | exact congrArg (Value.int _) (by omega)) (Sub.cons rfl (by first | rfl | exact congrArg (Value.int _) (by omega)) (Sub.nil _))) (Sub.cons rfl rfl (Sub.nil _)) ?_ ?_
  ·
    exact ⟨⟨Nat.zero_le _, HR⟩, S1⟩
  ·
    intro k w2 hrel
    obtain ⟨⟨hk, RX⟩, S2⟩ := hrel
    refine T_seq fun K6 hK6 => ?_
    refine T_seq fun K7 hK7 => ?_
    refine T_region ?_
    refine L_y (y_move rfl) rfl ?_
    refine L_y (y_move rfl) rfl ?_
    refine L_y (y_len Try.underlying27 rfl) rfl ?_
    refine L_y (y_lss rfl rfl) rfl ?_
    refine L_nil ?_
    refine hK7 _ _ ?_
    refine T_cond rfl (fun h14 => ?_) (fun h14 => ?_)
    ·
      obtain ⟨x, hx⟩ : ∃ x, (rwL l p q j)[k]? = some x := ⟨_, List.getElem?_eq_getElem (by omega)⟩
      have hxl := x.toNat_lt
      have hbb := be_bound (k := k) (j := 7) (show k < (rwL l p q j).length by omega) (by omega)
      refine T_skip ?_
      refine hK6 _ _ ?_
      refine T_seq fun K8 hK8 => ?_
      refine T_block ?_
      refine T_region ?_
      refine L_y (y_move rfl) rfl ?_
      refine L_y (y_mul rfl rfl (IntKind.wrap_u64 _)) rfl ?_
      refine L_y (y_move rfl) rfl ?_
      refine L_y (y_move rfl) rfl ?_
      refine L_y (y_idx Try.underlying27 sz5 rfl rfl (RX) inferInstance (by omega)) rfl ?_
      refine L_y (y_ldr Try.underlying5 rfl rfl RX (bL_getX hx)) rfl ?_
      refine L_y (y_conv is5 Try.underlying127 rfl (u64w (by omega))) rfl ?_
      refine L_y (y_add rfl rfl (IntKind.wrap_u64 _)) rfl ?_
      refine L_y (y_assign rfl) rfl ?_
      refine L_nil ?_
      refine hK8 _ _ ?_
      refine T_region ?_
      refine L_y (y_move rfl) rfl ?_
      refine L_y (y_add rfl rfl (i64w (by omega))) rfl ?_
      refine L_y (y_assign rfl) rfl ?_
      refine L_nil ?_
      refine ⟨k + 1, by omega, ⟨⟨by omega, RX⟩, S2⟩, ?_⟩
      exact (Sub.cons rfl (congrArg (Value.int _) (by rw [be_take hx]; omega)) (Sub.cons rfl (by first | rfl | exact congrArg (Value.int _) (by omega)) (Sub.cons rfl rfl (Sub.nil _))))
    ·
      have hke : k = (rwL l p q j).length := by omega
      subst hke
      refine T_exit ?_
      refine hK4 _ _ ?_
      refine T_seq fun K9 hK9 => ?_
      refine T_region ?_
      refine L_y (y_move rfl) rfl ?_
      refine L_y (y_assign rfl) rfl ?_
      refine L_nil ?_
      refine hK9 _ _ ?_
      refine T_ret ?_
      repeat (first | with_reducible refine up_then ?_ | with_reducible refine up_in ?_)
      refine ret1 rfl rfl ?_
      exact ⟨_, rfl, by rw [List.take_length], S2.turned1 0 rfl⟩


end Go.Proofs.Ytgaklngnfecdaaa.Oct


/-
  An id of a reader.
-/
namespace Go.Proofs.Ytgaklngnfecdaaa.Idx
open Go.RowKit Zk Zx
open Oid (idf idf_len cmpL)
set_option linter.unusedVariables false
set_option linter.unusedSimpArgs false

open Oct (rdr rdr_apart)
theorem rdr_lt {w : World} {g n c p q : Nat} {A : Option Addr} {l : List UInt8} (h : (rdr g A n c l p q).holds w) : ∀ i, (rdr g A n c l p q).dom i → i < w.heap.size := fun i hi => by
  rcases hi with hi | hi
  · have hi' : i = g := hi
    subst hi'
    exact Blk.lt h.1
  · exact (World.ownsRow.lt h.2 i hi).2
def zI : Oid.Id := ⟨List.replicate 32 0, rfl⟩
theorem id_whole (x : Oid.Id) : ((idf x).toArray.toList.drop 0).take 32 = idf x ∧ (idf x).length = 32 := ⟨by rw [List.drop_zero]; exact List.take_of_length_le (by simp [idf_len]), idf_len x⟩
theorem cp_id {x z : Oid.Id} : ((idf x).toArray.toList.take 0 ++ bL z.l ++ (idf x).toArray.toList.drop (0 + (bL z.l).length)).toArray = (idf z).toArray := by
  rw [List.drop_of_length_le (by rw [List.toList_toArray, idf_len, length_bL, z.h]; omega), List.append_nil]
  rfl


set_option maxRecDepth 100000 in
theorem take (g : Nat) (A : Option Addr) (n c : Nat) (l : List UInt8) (p : Nat) (z : Oid.Id) (w0 : World) (hw : (rdr g A n c l p 0).holds w0) (hp : p + 32 ≤ l.length) (hn : n ≤ 70368744177664) (hz : z.l = (l.drop p).take 32) :
    Calls Try.prog 119 #[.pointer (some ⟨g, 0, none⟩)] w0 fun e w' => ∃ u, e = .returned u ∧ Turned w0 w' (rdr g A n c l p 0) (rdr g A n c l (p + 32) 0) ∧ u = .agg (idf z).toArray := by
  refine enter1 (env := [(0, .pointer (some ⟨g, 0, none⟩))]) [.pointer (some ⟨g, 0, none⟩)] Try.func119 rfl Try.ntmps119 rfl rfl ?_
  have S0 := St.borrow1 (rdr g A n c l p 0) hw (rdr_lt hw)
  refine T_seq fun K1 hK1 => ?_
  refine T_region ?_
  refine L_o (o_alloc zz23 S0 rfl fun b1 w1 hb1 S1 => ?_)
  refine L_nil ?_
  refine hK1 _ _ ?_
  refine T_seq fun K2 hK2 => ?_
  refine T_region ?_
  refine L_o (o_alloc zz23 S1 rfl fun b2 w2 hb2 S2 => ?_)
  have S3 : Zx.St w0 (rdr g A n c l p 0).dom [rdr g A n c l p 0, blk b1 23 (idf zI).toArray, blk b2 23 (idf zI).toArray] w2 := S2.cast (by kernel_rfl)
  refine L_nil ?_
  refine hK2 _ _ ?_
  refine T_seq fun K3 hK3 => ?_
  refine T_drawnX (fun w => Blk w b1 23 (idf zI).toArray) hmix (by kernel_rfl) (fun w l => ((S3.like l).blk 1 rfl)) fun w4 l4 => ?_
  have S4 := S3.like l4
  refine DX_y 0 (by kernel_rfl) rfl (y_aslice Try.underlying23 sz5 rfl) rfl ?_
  refine DX_y 1 (by kernel_rfl) rfl (y_move rfl) rfl ?_
  refine DX_o1 2 (by kernel_rfl) rfl ?_
  refine o_call Try.func72 rfl rfl (Oct.rraw g A n c l p 0 (32 : Nat) w4 (S4.get 0 rfl) (by omega) hn (by omega)) rfl rfl ?_
  rintro e5 w5 ⟨v5, rfl, T5, B7, d7, rfl, hr5, hd5⟩
  refine ⟨_, rfl, ?_⟩
  have S5 := S4.turn 0 rfl T5
  obtain ⟨e1, e2, e3⟩ := Oct.rn_ok (l := l) (p := p) (k := 32) (by omega)
  rw [e1, ← hz] at hr5 hd5
  have S6 := St.newT S4 0 rfl T5 (fun i hi => hi) hr5 (fun i hi => ⟨hd5 i hi, (World.ownsRow.lt hr5 i hi).2⟩)
  rw [e2, e3] at S6
  rw [e1, ← hz]
  refine ⟨(S6.blk 1 rfl), ?_⟩
  refine DX_o1 3 (by kernel_rfl) rfl ?_
  refine o_copyB (news := bL z.l) S6 2 rfl Try.underlying27 sz5 rfl rfl rfl (S6.row 3 rfl) (by rw [List.take_of_length_le (by rw [length_bL, z.h]; omega)]) (by rw [List.size_toArray, idf_len, length_bL, z.h]; omega) (bL_one _) rfl fun w7 S7 => ?_
  refine ⟨(S7.blk 1 rfl), ?_⟩
  have S90 := S7.blkc 2 rfl cp_id
  refine DX_nil (by kernel_rfl) ?_
  refine hK3 _ _ ?_
  refine T_seq fun K4 hK4 => ?_
  refine T_region ?_
  refine L_y (y_ldW Try.underlying23 rfl sz23 rfl (S90.blk 2 rfl) (id_whole z)) rfl ?_
  refine L_o (o_stW S90 1 rfl rfl rfl (by rw [List.size_toArray, idf_len]; exact sz23) (by rw [List.size_toArray, List.size_toArray, idf_len, idf_len]) (fun u hu => bL_one _ u (by rw [List.toList_toArray] at hu; exact hu)) fun w8 S8 => ?_)
  refine L_nil ?_
  refine hK4 _ _ ?_
  refine T_ret ?_
  repeat (first | with_reducible refine up_then ?_ | with_reducible refine up_in ?_)
  refine retc rfl rfl (S8.blk 1 rfl) Try.underlying23 rfl (by rw [List.size_toArray, idf_len]; exact sz23) ?_
  exact ⟨_, rfl, S8.turned1 0 rfl, rfl⟩
end Go.Proofs.Ytgaklngnfecdaaa.Idx


/-
  An index asked.
-/
namespace Go.Proofs.Ytgaklngnfecdaaa.Idx
open Go.RowKit Zk Zx
open Oid (idf idf_len cmpL)
set_option linter.unusedVariables false
set_option linter.unusedSimpArgs false

/-- An index as it is kept. -/
def idxf (A : Option Addr) (n c : Nat) (l : List Row) (of : Oid.Id) : List Value := [.slice A n c] ++ fanF l ++ idf of
theorem idx_row (A : Option Addr) (n c : Nat) (l : List Row) (of : Oid.Id) : (idxf A n c l of).toArray[0]? = some (.slice A n c) := rfl
theorem idx_fan (A : Option Addr) (n c : Nat) (l : List Row) (of : Oid.Id) {k : Nat} (h : k < 256) : (idxf A n c l of).toArray[1 + k]? = some (.int .i64 (cl l (k + 1) : Int)) := by
  have h2 := fan_cell l k h
  rw [List.getElem?_toArray] at h2 ⊢
  unfold idxf
  rw [List.getElem?_append_left (by simp [fanF_len]; omega), List.getElem?_append_right (by simp)]
  simpa using h2
theorem idx_of (A : Option Addr) (n c : Nat) (l : List Row) (of : Oid.Id) : ((idxf A n c l of).toArray.toList.drop 257).take 32 = idf of ∧ (idf of).length = 32 := by
  refine ⟨?_, idf_len of⟩
  unfold idxf
  rw [List.toList_toArray, List.drop_append_of_le_length (by simp [fanF_len]), List.drop_of_length_le (by simp [fanF_len]), List.nil_append]
  exact List.take_of_length_le (by rw [idf_len]; omega)
theorem like_same {w w' : World} {g t : Nat} {cs : Array Value} (h : Blk w g t cs) (T : Turned w w' (blk g t cs) (blk g t cs)) : Like w w' := ⟨T.os, T.tape, T.output, T.size, fun k hk => by
  by_cases e : k = g
  · subst e; exact T.holds.trans h.symm
  · exact T.old k hk (fun hh => e hh)⟩
theorem blk_ilt {w : World} {g t : Nat} {cs : Array Value} (h : Blk w g t cs) : ∀ i, (blk g t cs).dom i → i < w.heap.size := fun i hi => by
  have hi' : i = g := hi
  subst hi'
  exact h.lt
/-- The row at a place, a zero row elsewhere. -/
def zR : Row := ⟨⟨List.replicate 32 0, rfl⟩, 0, 0⟩
set_option maxRecDepth 100000 in
theorem place (x : Row) (w0 : World)  :
    Calls Try.prog 82 #[.agg (rowf x).toArray] w0 fun e w' => ∃ u, e = .returned u ∧ Like w0 w' ∧ u = .agg (plf x).toArray := by
  refine enter1 (env := [(0, .agg (rowf x).toArray)]) [.agg (rowf x).toArray] Try.func82 rfl Try.ntmps82 rfl rfl ?_
  have S0 := St.start w0 noM
  refine T_seq fun K1 hK1 => ?_
  refine T_region ?_
  refine L_o (o_box rfl S0 rfl fun b1 w1 hb1 S1 => ?_)
  refine L_o (o_alloc zz62 S1 rfl fun b2 w2 hb2 S2 => ?_)
  refine L_nil ?_
  refine hK1 _ _ ?_
  refine T_seq fun K2 hK2 => ?_
  refine T_region ?_
  refine L_y (y_fieldA 0 Try.underlying119 rfl sz23 rfl rfl rfl) rfl ?_
  refine L_y (y_ldW Try.underlying23 rfl sz23 rfl (S2.blk 0 rfl) (row_id x)) rfl ?_
  refine L_y (y_fieldA 33 Try.underlying119 rfl sz3 rfl rfl rfl) rfl ?_
  refine L_y (y_ldc Try.underlying3 rfl rfl (((S2.blk 0 rfl).cell _).trans (row33 x))) rfl ?_
  refine L_y (y_fieldA 32 Try.underlying119 rfl sz60 rfl rfl rfl) rfl ?_
  refine L_y (y_ldc Try.underlying60 rfl rfl (((S2.blk 0 rfl).cell _).trans (row32 x))) rfl ?_
  refine L_y (y_build rfl (built_pl x)) rfl ?_
  refine L_o (o_stW S2 1 rfl rfl rfl (by rw [plf_sz]; exact sz62) (by first | (rw [plf_sz, plf_sz]; done) | (rw [plf_sz]; rfl)) (fun u hu => plf_one _ u (by rw [List.toList_toArray] at hu; exact hu)) fun w3 S3 => ?_)
  refine L_nil ?_
  refine hK2 _ _ ?_
  refine T_ret ?_
  repeat (first | with_reducible refine up_then ?_ | with_reducible refine up_in ?_)
  refine retc rfl rfl (S3.blk 1 rfl) Try.underlying62 rfl (by rw [plf_sz]; exact sz62) ?_
  exact ⟨_, rfl, S3.like0, rfl⟩


set_option maxRecDepth 100000 in
theorem lenX (g : Nat) (A : Option Addr) (n c : Nat) (l : List Row) (of : Oid.Id) (w0 : World) (hx : Blk w0 g 97 (idxf A n c l of).toArray) (hl : Rs w0 34 A n c (l.flatMap rowf)) :
    Calls Try.prog 31 #[.pointer (some ⟨g, 0, none⟩)] w0 fun e w' => ∃ u, e = .returned u ∧ Like w0 w' ∧ u = .int .i64 (l.length : Int) := by
  refine enter1 (env := [(0, .pointer (some ⟨g, 0, none⟩))]) [.pointer (some ⟨g, 0, none⟩)] Try.func31 rfl Try.ntmps31 rfl rfl ?_
  have hn := rows_len hl; have hcap := hl.cap; have hmax := hl.max
  have S0 := St.borrow1 (blk g 97 (idxf A n c l of).toArray) hx (blk_ilt hx)
  refine T_seq fun K1 hK1 => ?_
  refine T_region ?_
  refine L_y (y_assign rfl) rfl ?_
  refine L_nil ?_
  refine hK1 _ _ ?_
  refine T_seq fun K2 hK2 => ?_
  refine T_seq fun K3 hK3 => ?_
  refine T_region ?_
  refine L_y (y_move rfl) rfl ?_
  refine L_y (y_peqn Try.underlying49 rfl) rfl ?_
  refine L_nil ?_
  refine hK3 _ _ ?_
  refine T_false rfl ?_
  refine T_skip ?_
  refine hK2 _ _ ?_
  refine T_seq fun K4 hK4 => ?_
  refine T_region ?_
  refine L_y (y_move rfl) rfl ?_
  refine L_y (y_nilp rfl) rfl ?_
  refine L_y (y_fieldA 0 Try.underlying97 rfl sz94 rfl rfl rfl) rfl ?_
  refine L_y (y_ldc Try.underlying94 rfl rfl (((S0.blk 0 rfl).cell _).trans (idx_row _ _ _ _ _))) rfl ?_
  refine L_y (y_len Try.underlying94 rfl) rfl ?_
  refine L_y (y_assign rfl) rfl ?_
  refine L_nil ?_
  refine hK4 _ _ ?_
  refine T_ret ?_
  repeat (first | with_reducible refine up_then ?_ | with_reducible refine up_in ?_)
  refine ret1 rfl rfl ?_
  exact ⟨_, rfl, like_same hx (S0.turned1 0 rfl), by rw [hn]⟩


set_option maxRecDepth 100000 in
theorem ofX (g : Nat) (A : Option Addr) (n c : Nat) (l : List Row) (of : Oid.Id) (w0 : World) (hx : Blk w0 g 97 (idxf A n c l of).toArray) (hl : Rs w0 34 A n c (l.flatMap rowf)) :
    Calls Try.prog 32 #[.pointer (some ⟨g, 0, none⟩)] w0 fun e w' => ∃ u, e = .returned u ∧ Like w0 w' ∧ u = .agg (idf of).toArray := by
  refine enter1 (env := [(0, .pointer (some ⟨g, 0, none⟩))]) [.pointer (some ⟨g, 0, none⟩)] Try.func32 rfl Try.ntmps32 rfl rfl ?_
  have hn := rows_len hl; have hcap := hl.cap; have hmax := hl.max
  have S0 := St.borrow1 (blk g 97 (idxf A n c l of).toArray) hx (blk_ilt hx)
  refine T_seq fun K1 hK1 => ?_
  refine T_region ?_
  refine L_o (o_alloc zz23 S0 rfl fun b1 w1 hb1 S1 => ?_)
  refine L_nil ?_
  refine hK1 _ _ ?_
  refine T_seq fun K2 hK2 => ?_
  refine T_seq fun K3 hK3 => ?_
  refine T_region ?_
  refine L_y (y_move rfl) rfl ?_
  refine L_y (y_peqn Try.underlying49 rfl) rfl ?_
  refine L_nil ?_
  refine hK3 _ _ ?_
  refine T_false rfl ?_
  refine T_skip ?_
  refine hK2 _ _ ?_
  refine T_seq fun K4 hK4 => ?_
  refine T_region ?_
  refine L_y (y_move rfl) rfl ?_
  refine L_y (y_nilp rfl) rfl ?_
  refine L_y (y_fieldA 257 Try.underlying97 rfl sz23 rfl rfl rfl) rfl ?_
  refine L_y (y_ldW Try.underlying23 rfl sz23 rfl (S1.blk 0 rfl) (idx_of _ _ _ _ _)) rfl ?_
  refine L_o (o_stW S1 1 rfl rfl rfl (by rw [List.size_toArray, idf_len]; exact sz23) (by first | (rw [List.size_toArray, List.size_toArray, idf_len, idf_len]; done) | (rw [List.size_toArray, idf_len]; rfl)) (fun u hu => bL_one _ u (by rw [List.toList_toArray] at hu; exact hu)) fun w2 S2 => ?_)
  refine L_nil ?_
  refine hK4 _ _ ?_
  refine T_ret ?_
  repeat (first | with_reducible refine up_then ?_ | with_reducible refine up_in ?_)
  refine retc rfl rfl (S2.blk 1 rfl) Try.underlying23 rfl (by rw [List.size_toArray, idf_len]; exact sz23) ?_
  exact ⟨_, rfl, like_same hx (S2.turned1 0 rfl), rfl⟩


end Go.Proofs.Ytgaklngnfecdaaa.Idx


/-
  Search by halves.
-/
namespace Go.Proofs.Ytgaklngnfecdaaa.Idx
open Go.RowKit Zk Zx
open Oid (idf idf_len cmpL)
set_option linter.unusedVariables false
set_option linter.unusedSimpArgs false

/-- Where an id stands among rows, or would. -/
def At (l : List Row) (z : Oid.Id) (p : Nat) : Prop := p ≤ l.length ∧ (∀ i x, i < p → l[i]? = some x → Oid.lt x.id z = true) ∧ ∀ i x, p ≤ i → l[i]? = some x → Oid.lt x.id z = false
theorem lt_of_cmp {a b : Oid.Id} (h : cmpL a.l b.l < 0) : Oid.lt a b = true := (Oid.cmp_lt a b).1 h
theorem ge_of_cmp {a b : Oid.Id} (h : ¬ cmpL a.l b.l < 0) : Oid.lt a b = false := by
  cases e : Oid.lt a b with
  | false => rfl
  | true => exact absurd ((Oid.cmp_lt a b).2 e) h
theorem StR.at {l : List Row} (hs : StR l) {i j : Nat} {x y : Row} (hx : l[i]? = some x) (hy : l[j]? = some y) (h : i < j) : Oid.lt x.id y.id = true := by
  obtain ⟨h1, h2⟩ := List.getElem?_eq_some_iff.1 hx
  obtain ⟨h3, h4⟩ := List.getElem?_eq_some_iff.1 hy
  have := List.pairwise_iff_getElem.1 hs i j h1 h3 h
  rwa [h2, h4] at this
theorem wk_lt {l : List Row} (hs : StR l) {h i : Nat} {p x : Row} {z : Oid.Id} (hp : l[h]? = some p) (hi : i ≤ h) (hx : l[i]? = some x) (hl : Oid.lt p.id z = true) : Oid.lt x.id z = true := by
  rcases Nat.lt_or_eq_of_le hi with q | q
  · exact Oid.lt_trans _ _ _ (hs.at hx hp q) hl
  · subst q; rw [hp] at hx; cases hx; exact hl
theorem wk_ge {l : List Row} (hs : StR l) {h i : Nat} {p x : Row} {z : Oid.Id} (hp : l[h]? = some p) (hi : h ≤ i) (hx : l[i]? = some x) (hl : Oid.lt p.id z = false) : Oid.lt x.id z = false := by
  rcases Nat.lt_or_eq_of_le hi with q | q
  · cases e : Oid.lt x.id z with
    | false => rfl
    | true => rw [Oid.lt_trans _ _ _ (hs.at hp hx q) e] at hl; cases hl
  · subst q; rw [hp] at hx; cases hx; exact hl
theorem shr1 (a b : Nat) : Int.fdiv ((a : Int) + (b : Int)) (2 ^ (min (Int.toNat 1) IntKind.u64.bits)) = (((a + b) / 2 : Nat) : Int) := by
  rw [show min (Int.toNat 1) IntKind.u64.bits = 1 from rfl, Int.fdiv_eq_ediv_of_nonneg _ (by decide)]
  omega
theorem cmp_zero {a b : Oid.Id} : cmpL a.l b.l = 0 ↔ a = b := by
  constructor
  · intro h
    by_cases e : a = b
    · exact e
    · exfalso
      cases h1 : Oid.lt a b with
      | true => have := (Oid.cmp_lt a b).2 h1; omega
      | false =>
        have h2 := Oid.lt_total a b h1 e
        unfold cmpL at h
        unfold Oid.lt at h1 h2
        rw [h1, h2] at h
        simp at h
  · intro h
    subst h
    unfold cmpL
    rw [Oid.belowL_irrefl]
    rfl


set_option maxRecDepth 100000 in
theorem bsearch (A : Option Addr) (n c : Nat) (l : List Row) (y : Row) (w0 : World) (hl : Rs w0 34 A n c (l.flatMap rowf)) (hs : StR l) (h9 : l.length ≤ 100000) :
    Calls Try.prog 81 #[.slice A n c, .agg (rowf y).toArray, .func (.func 64) #[] #[]] w0 fun e w' => ∃ u, e = .returned u ∧ Like w0 w' ∧ ∃ p, At l y.id p ∧ u = .tuple #[.int .i64 (p : Int), .bool (decide ((l[p]?).map Row.id = some y.id))] := by
  refine enter1 (env := [(0, .slice A n c), (1, .agg (rowf y).toArray), (2, .func (.func 64) #[] #[])]) [.slice A n c, .agg (rowf y).toArray, .func (.func 64) #[] #[]] Try.func81 rfl Try.ntmps81 rfl rfl ?_
  have hn := rows_len hl; have hcap := hl.cap; have hmax := hl.max
  have S0 := St.start w0 noM
  refine T_seq fun K1 hK1 => ?_
  refine T_region ?_
  refine L_o (o_box rfl S0 rfl fun b1 w1 hb1 S1 => ?_)
  refine L_y (y_assign rfl) rfl ?_
  refine L_y (y_assign rfl) rfl ?_
  refine L_nil ?_
  refine hK1 _ _ ?_
  refine T_seq fun K2 hK2 => ?_
  refine T_region ?_
  refine L_y (y_move rfl) rfl ?_
  refine L_y (y_len Try.underlying94 rfl) rfl ?_
  refine L_y (y_assign rfl) rfl ?_
  refine L_nil ?_
  refine hK2 _ _ ?_
  refine T_seq fun K3 hK3 => ?_
  refine T_region ?_
  refine L_y (y_move rfl) rfl ?_
  refine L_y (y_assign rfl) rfl ?_
  refine L_y (y_assign rfl) rfl ?_
  refine L_nil ?_
  refine hK3 _ _ ?_
  refine T_seq fun K4 hK4 => ?_
  refine T_block ?_
  refine T_loop2 [(0, _), (2, _), (4, _), (8, _)] (fun (a : Nat) (b : Nat) => [(9, .int .i64 (a : Int)), (10, .int .i64 (b : Int))]) (fun (a : Nat) (b : Nat) => b - a) (fun (a : Nat) (b : Nat) (w : World) => (a ≤ b ∧ b ≤ l.length ∧ (∀ i x, i < a → l[i]? = some x → Oid.lt x.id y.id = true) ∧ ∀ i x, b ≤ i → l[i]? = some x → Oid.lt x.id y.id = false) ∧ Zx.St w0 noM [blk b1 119 (rowf y).toArray] w) 0 l.length (Sub.cons rfl (by first | rfl | exact congrArg (Value.int _) (by omega)) (Sub.cons rfl (by first | rfl | exact congrArg (Value.int _) (by omega)) (Sub.nil _))) (Sub.cons rfl rfl (Sub.cons rfl rfl (Sub.cons rfl rfl (Sub.cons rfl rfl (Sub.nil _))))) ?_ ?_
  ·
    exact ⟨⟨Nat.zero_le _, Nat.le_refl _, fun i x hi => by omega, fun i x hi hx => by have := (List.getElem?_eq_some_iff.1 hx).1; omega⟩, S1⟩
  ·
    intro a b w2 hrel
    obtain ⟨⟨hab, hbn, hlo, hhi⟩, S2⟩ := hrel
    refine T_seq fun K5 hK5 => ?_
    refine T_seq fun K6 hK6 => ?_
    refine T_region ?_
    refine L_y (y_move rfl) rfl ?_
    refine L_y (y_move rfl) rfl ?_
    refine L_y (y_lss rfl rfl) rfl ?_
    refine L_nil ?_
    refine hK6 _ _ ?_
    refine T_cond rfl (fun h17 => ?_) (fun h17 => ?_)
    ·
      refine T_skip ?_
      refine hK5 _ _ ?_
      refine T_block ?_
      refine T_seq fun K7 hK7 => ?_
      obtain ⟨h, hh⟩ : ∃ h, h = (a + b) / 2 := ⟨_, rfl⟩
      obtain ⟨p, hp⟩ : ∃ x, l[h]? = some x := ⟨_, List.getElem?_eq_getElem (by omega)⟩
      refine T_region ?_
      refine L_y (y_move rfl) rfl ?_
      refine L_y (y_move rfl) rfl ?_
      refine L_y (y_add rfl rfl (i64w (by omega))) rfl ?_
      refine L_y (y_conv is3 Try.underlying162 rfl (u64w (by omega))) rfl ?_
      refine L_y (y_shr rfl rfl (by decide) (shr1 a b)) rfl ?_
      refine L_y (y_conv is162 Try.underlying3 rfl (i64w (by omega))) rfl ?_
      refine L_y (y_assign rfl) rfl ?_
      refine L_nil ?_
      refine hK7 _ _ ?_
      refine T_seq fun K8 hK8 => ?_
      refine T_tail 6 hmix (by kernel_rfl) fun w3 l3 K9 hK9 => ?_
      have S3 := S2.like l3
      refine HL_y (y_move rfl) rfl ?_
      refine HL_y (y_move rfl) rfl ?_
      refine HL_y (y_move rfl) rfl ?_
      refine HL_y (y_idx Try.underlying94 sz119 rfl rfl (by first | exact S3.rd hl) (Nt.mk (by omega) : Nt _ (h)) (by omega)) rfl ?_
      refine HL_y (y_ldp (f := rowf) rowf_len Try.underlying119 rfl sz119 rfl (S3.rd hl) (by omega) hp) rfl ?_
      refine HL_y (y_ldW Try.underlying119 rfl sz119 rfl (S3.blk 0 rfl) (row_whole y)) rfl ?_
      refine HL_nil ?_
      refine hK9 _ ?_
      refine L_o (o_callv rfl Try.func64 rfl rfl (cmpR p y w3) rfl rfl (fun d' hd => by cases hd <;> rfl) ?_)
      rintro e4 w4 ⟨v4, rfl, l4, rfl⟩
      refine ⟨_, rfl, ?_⟩
      have S4 := S3.like l4
      refine L_y (y_lss rfl rfl) rfl ?_
      refine L_nil ?_
      refine hK8 _ _ ?_
      refine T_cond rfl (fun h31 => ?_) (fun h31 => ?_)
      ·
        refine T_region ?_
        refine L_y (y_move rfl) rfl ?_
        refine L_y (y_add rfl rfl (i64w (by omega))) rfl ?_
        refine L_y (y_assign rfl) rfl ?_
        refine L_nil ?_
        refine ⟨h + 1, b, by omega, ⟨⟨by omega, hbn, fun i x hi hx => wk_lt hs hp (by omega) hx (lt_of_cmp h31), hhi⟩, S4⟩, ?_⟩
        exact (Sub.cons rfl (by first | rfl | exact congrArg (Value.int _) (by omega)) (Sub.cons rfl (by first | rfl | exact congrArg (Value.int _) (by omega)) (Sub.cons rfl rfl (Sub.cons rfl rfl (Sub.cons rfl rfl (Sub.cons rfl rfl (Sub.nil _)))))))
      ·
        refine T_region ?_
        refine L_y (y_move rfl) rfl ?_
        refine L_y (y_assign rfl) rfl ?_
        refine L_nil ?_
        refine ⟨a, h, by omega, ⟨⟨by omega, by omega, hlo, fun i x hi hx => wk_ge hs hp hi hx (ge_of_cmp h31)⟩, S4⟩, ?_⟩
        exact (Sub.cons rfl (by first | rfl | exact congrArg (Value.int _) (by omega)) (Sub.cons rfl (by first | rfl | exact congrArg (Value.int _) (by omega)) (Sub.cons rfl rfl (Sub.cons rfl rfl (Sub.cons rfl rfl (Sub.cons rfl rfl (Sub.nil _)))))))
    ·
      refine T_exit ?_
      refine hK4 _ _ ?_
      refine T_seq fun K10 hK10 => ?_
      refine T_drawnL [(0, true), (1, true), (2, true), (3, true), (4, true), (5, true), (6, true), (7, true), (8, true), (9, true), (10, true), (11, false), (12, true), (13, true), (14, true), (15, true)] hmix (by kernel_rfl) fun w5 l5 => ?_
      have S5 := S2.like l5
      refine DL_y rfl (y_move rfl) rfl ?_
      refine DL_y rfl (y_move rfl) rfl ?_
      refine DL_y rfl (y_move rfl) rfl ?_
      refine DL_y rfl (y_lss rfl rfl) rfl ?_
      refine DL_y rfl (y_move rfl) rfl ?_
      refine DL_split 39 rfl (fun h39 => ?_) (fun h39 => ?_)
      ·
        obtain ⟨p, hp2⟩ : ∃ x, l[a]? = some x := ⟨_, List.getElem?_eq_getElem (by omega)⟩
        refine DL_gyes rfl rfl rfl (y_move rfl) rfl ?_
        refine DL_gyes rfl rfl rfl (y_move rfl) rfl ?_
        refine DL_gyes rfl rfl rfl (y_move rfl) rfl ?_
        refine DL_gyes rfl rfl rfl (y_idx Try.underlying94 sz119 rfl rfl (by first | exact S5.rd hl) (Nt.mk (by omega) : Nt _ (a)) (by omega)) rfl ?_
        refine DL_gyes rfl rfl rfl (y_ldp (f := rowf) rowf_len Try.underlying119 rfl sz119 rfl (S5.rd hl) (by omega) hp2) rfl ?_
        refine DL_gyes rfl rfl rfl (y_ldW Try.underlying119 rfl sz119 rfl (S5.blk 0 rfl) (row_whole y)) rfl ?_
        refine DL_ogyes rfl rfl rfl (o_callv rfl Try.func64 rfl rfl (cmpR p y w5) rfl rfl (fun d' hd => by cases hd <;> rfl) ?_)
        rintro e6 w6 ⟨v6, rfl, l6, rfl⟩
        refine ⟨_, rfl, l6, ?_⟩
        have S6 := S5.like l6
        have q6 := l6
        refine DL_gyes rfl rfl rfl (y_eql rfl rfl) rfl ?_
        refine DL_y rfl ((by first | exact y_pickT rfl rfl | exact y_pickF rfl rfl)) rfl ?_
        refine DL_y rfl (y_assign rfl) rfl ?_
        refine DL_y rfl (y_assign rfl) rfl ?_
        refine DL_nil ?_
        refine hK10 _ _ ?_
        refine T_ret ?_
        repeat (first | with_reducible refine up_then ?_ | with_reducible refine up_in ?_)
        refine ret2 rfl rfl rfl ?_
        have hat : At l y.id a := ⟨by omega, hlo, fun i x hi hx => hhi i x (by omega) hx⟩
        first | exact ⟨_, rfl, S6.like0, a, hat, by rw [hp2]; exact congrArg (fun b : Bool => Value.tuple #[.int .i64 (a : Int), .bool b]) (decide_eq_decide.2 (cmp_zero.trans (by simp)))⟩ | exact ⟨_, rfl, S6.like0, a, hat, by rw [List.getElem?_eq_none (by omega)]; rfl⟩
      ·
        refine DL_gno rfl rfl rfl rfl ?_
        refine DL_gno rfl rfl rfl rfl ?_
        refine DL_gno rfl rfl rfl rfl ?_
        refine DL_gno rfl rfl rfl rfl ?_
        refine DL_gno rfl rfl rfl rfl ?_
        refine DL_gno rfl rfl rfl rfl ?_
        refine DL_ogno rfl rfl rfl rfl ?_
        refine DL_gno rfl rfl rfl rfl ?_
        refine DL_y rfl ((by first | exact y_pickT rfl rfl | exact y_pickF rfl rfl)) rfl ?_
        refine DL_y rfl (y_assign rfl) rfl ?_
        refine DL_y rfl (y_assign rfl) rfl ?_
        refine DL_nil ?_
        refine hK10 _ _ ?_
        refine T_ret ?_
        repeat (first | with_reducible refine up_then ?_ | with_reducible refine up_in ?_)
        refine ret2 rfl rfl rfl ?_
        have hat : At l y.id a := ⟨by omega, hlo, fun i x hi hx => hhi i x (by omega) hx⟩
        first | exact ⟨_, rfl, S5.like0, a, hat, by rw [hp2]; exact congrArg (fun b : Bool => Value.tuple #[.int .i64 (a : Int), .bool b]) (decide_eq_decide.2 (cmp_zero.trans (by simp)))⟩ | exact ⟨_, rfl, S5.like0, a, hat, by rw [List.getElem?_eq_none (by omega)]; rfl⟩
end Go.Proofs.Ytgaklngnfecdaaa.Idx


/-
  Find: plain laws.
-/
namespace Go.Proofs.Ytgaklngnfecdaaa.Idx
open Go.RowKit Zk Zx
open Oid (idf idf_len cmpL)
set_option linter.unusedVariables false
set_option linter.unusedSimpArgs false

theorem StR.fs {l : List Row} (h : StR l) : FS l := by
  unfold FS
  exact h.imp fun {x y} hxy => lt_fb (by
    cases e : Oid.lt y.id x.id with
    | false => rfl
    | true => have := Oid.lt_trans _ _ _ hxy e; rw [Oid.lt_irr] at this; cases this)
/-- An id's first byte. -/
def fz (z : Oid.Id) : Nat := (z.l.getD 0 0).toNat
theorem fz_lt (z : Oid.Id) : fz z < 256 := UInt8.toNat_lt _
theorem cell_fz (z : Oid.Id) : (idf z).toArray[0]? = some (.int .u8 (fz z : Int)) := by
  unfold fz idf
  have h := z.h
  cases hl : z.l with
  | nil => rw [hl] at h; cases h
  | cons a r => rfl
/-- What Find answers. -/
def Found (l : List Row) (z : Oid.Id) (u : Value) : Prop := (∃ (k : Nat) (x : Row), l[k]? = some x ∧ x.id = z ∧ u = .tuple #[.agg (plf x).toArray, .bool true]) ∨ ((∀ x ∈ l, x.id ≠ z) ∧ u = .tuple #[.agg (plf zR).toArray, .bool false])
def sub (l : List Row) (a b : Nat) : List Row := (l.drop a).take (b - a)
theorem sub_get {l : List Row} {a b k : Nat} {x : Row} (h : (sub l a b)[k]? = some x) : l[a + k]? = some x ∧ k < b - a := by
  unfold sub at h
  rw [List.getElem?_take] at h
  split at h
  · rename_i hk; rw [List.getElem?_drop] at h; exact ⟨h, hk⟩
  · cases h
theorem sub_str {l : List Row} (hs : StR l) (a b : Nat) : StR (sub l a b) := List.Pairwise.sublist ((List.take_sublist _ _).trans (List.drop_sublist _ _)) hs
theorem sub_of {l : List Row} {a b i : Nat} {x : Row} (h : l[i]? = some x) (h1 : a ≤ i) (h2 : i < b) : (sub l a b)[i - a]? = some x := by
  unfold sub
  rw [List.getElem?_take, if_pos (by omega), List.getElem?_drop, show a + (i - a) = i by omega]
  exact h
theorem no_find {l : List Row} (hs : StR l) {z : Oid.Id} {p : Nat} (hat : At (sub l (cl l (fz z)) (cl l (fz z + 1))) z p) (hn : ¬ ((sub l (cl l (fz z)) (cl l (fz z + 1)))[p]?).map Row.id = some z) : ∀ x ∈ l, x.id ≠ z := fun x hx e => by
  obtain ⟨i, hi⟩ := List.mem_iff_getElem?.1 hx
  have hf : fb x = fz z := by unfold fb fz; rw [e]
  have h1 : ¬ i < cl l (fz z) := fun q => by have := (cl_pos hs.fs hi).1 q; omega
  have h2 : i < cl l (fz z + 1) := (cl_pos hs.fs hi).2 (by omega)
  have hx2 := sub_of (a := cl l (fz z)) hi (by omega) h2
  rcases Nat.lt_trichotomy (i - cl l (fz z)) p with q | q | q
  · have := hat.2.1 _ _ q hx2
    rw [e, Oid.lt_irr] at this
    cases this
  · rw [← q, hx2] at hn
    exact hn (by simp [e])
  · have hss := sub_str hs (cl l (fz z)) (cl l (fz z + 1))
    have hlen := (List.getElem?_eq_some_iff.1 hx2).1
    obtain ⟨y, hp⟩ : ∃ y, (sub l (cl l (fz z)) (cl l (fz z + 1)))[p]? = some y := ⟨_, List.getElem?_eq_getElem (by omega)⟩
    have h3 := hat.2.2 _ _ (Nat.le_refl _) hp
    have h4 := hss.at hp hx2 q
    rw [e] at h4
    rw [h4] at h3
    cases h3
end Go.Proofs.Ytgaklngnfecdaaa.Idx


/-
  Find.
-/
namespace Go.Proofs.Ytgaklngnfecdaaa.Idx
open Go.RowKit Zk Zx
open Oid (idf idf_len cmpL)
set_option linter.unusedVariables false
set_option linter.unusedSimpArgs false

theorem built_id (z : Oid.Id) : Try.prog.built 119 [(0, .agg (idf z).toArray)] = some (rowf ⟨z, 0, 0⟩).toArray := by
  obtain ⟨l, h⟩ := z
  obtain ⟨a0, a1, a2, a3, a4, a5, a6, a7, a8, a9, a10, a11, a12, a13, a14, a15, a16, a17, a18, a19, a20, a21, a22, a23, a24, a25, a26, a27, a28, a29, a30, a31, rfl⟩ := list32 l h
  kernel_rfl
theorem flat_drop (l : List Row) : ∀ a, (l.flatMap rowf).drop (a * 34) = (l.drop a).flatMap rowf
  | 0 => by simp
  | a + 1 => by
    cases l with
    | nil => simp
    | cons x l =>
      rw [List.flatMap_cons, List.drop_succ_cons, ← flat_drop l a, show (a + 1) * 34 = (rowf x).length + a * 34 by rw [rowf_len]; omega, List.drop_append]
      simp
theorem flat_sub (l : List Row) (a b : Nat) : ((l.flatMap rowf).drop (a * 34)).take ((b - a) * 34) = (sub l a b).flatMap rowf := by
  rw [flat_drop, flat_take rowf rowf_len]
  rfl
theorem sub_rs {w : World} {A : Option Addr} {n c a b : Nat} {l : List Row} (h : Rs w 34 A n c (l.flatMap rowf)) (h1 : a ≤ b) (h2 : b ≤ n) : Rs w 34 (cutA A c a 34) (b - a) (c - a) ((sub l a b).flatMap rowf) := by
  have := h.cut h1 h2
  rwa [flat_sub] at this
theorem sub_len (l : List Row) (a b : Nat) : (sub l a b).length ≤ l.length := by unfold sub; rw [List.length_take, List.length_drop]; omega


set_option maxRecDepth 100000 in
theorem find (g : Nat) (A : Option Addr) (n c : Nat) (l : List Row) (of : Oid.Id) (z : Oid.Id) (w0 : World) (hx : Blk w0 g 97 (idxf A n c l of).toArray) (hl : Rs w0 34 A n c (l.flatMap rowf)) (hne : ∀ ad, 0 < n → A = some ad → ad.block ≠ g) (hs : StR l) (h9 : l.length ≤ 100000) :
    Calls Try.prog 33 #[.pointer (some ⟨g, 0, none⟩), .agg (idf z).toArray] w0 fun e w' => ∃ u, e = .returned u ∧ Like w0 w' ∧ Found l z u := by
  refine enter1 (env := [(0, .pointer (some ⟨g, 0, none⟩)), (1, .agg (idf z).toArray)]) [.pointer (some ⟨g, 0, none⟩), .agg (idf z).toArray] Try.func33 rfl Try.ntmps33 rfl rfl ?_
  have hn := rows_len hl; have hcap := hl.cap; have hmax := hl.max
  have hfz := fz_lt z; have hle1 := cl_mono (StR.fs hs) (fz z); have hle2 := cl_le l (fz z + 1)
  have S0 := St.borrow1 (blk g 97 (idxf A n c l of).toArray) hx (blk_ilt hx)
  refine T_seq fun K1 hK1 => ?_
  refine T_region ?_
  refine L_o (o_box rfl S0 rfl fun b1 w1 hb1 S1 => ?_)
  refine L_o (o_alloc zz62 S1 rfl fun b2 w2 hb2 S2 => ?_)
  refine L_y (y_assign rfl) rfl ?_
  refine L_nil ?_
  refine hK1 _ _ ?_
  refine T_seq fun K2 hK2 => ?_
  refine T_seq fun K3 hK3 => ?_
  refine T_region ?_
  refine L_y (y_move rfl) rfl ?_
  refine L_y (y_peqn Try.underlying49 rfl) rfl ?_
  refine L_nil ?_
  refine hK3 _ _ ?_
  refine T_false rfl ?_
  refine T_skip ?_
  refine hK2 _ _ ?_
  refine T_seq fun K4 hK4 => ?_
  refine T_drawnL [(0, true), (1, true), (2, true), (3, true), (4, true), (5, true), (6, true), (7, true), (8, true)] hmix (by kernel_rfl) fun w3 l3 => ?_
  have S3 := S2.like l3
  refine DL_y rfl (y_move rfl) rfl ?_
  refine DL_y rfl (y_idxA0 Try.underlying23 sz5 rfl rfl inferInstance (by omega)) rfl ?_
  refine DL_y rfl (y_ldc Try.underlying5 rfl rfl (((S3.blk 1 rfl).cell _).trans (cell_fz z))) rfl ?_
  refine DL_y rfl (y_nilp rfl) rfl ?_
  refine DL_y rfl (y_fieldA 1 Try.underlying97 rfl sz95 rfl rfl rfl) rfl ?_
  refine DL_y rfl (y_idxA1 Try.underlying95 sz3 rfl rfl (Nt.mk rfl : Nt _ (fz z)) (by omega)) rfl ?_
  refine DL_y rfl (y_ldc Try.underlying3 rfl rfl (((S3.blk 0 rfl).cell _).trans (idx_fan _ _ _ _ _ (fz_lt z)))) rfl ?_
  refine DL_y rfl (y_assign rfl) rfl ?_
  refine DL_y rfl (y_assign rfl) rfl ?_
  refine DL_nil ?_
  refine hK4 _ _ ?_
  refine T_seq fun K5 hK5 => ?_
  refine T_seq fun K6 hK6 => ?_
  refine T_region ?_
  refine L_y (y_idxA0 Try.underlying23 sz5 rfl rfl inferInstance (by omega)) rfl ?_
  refine L_y (y_ldc Try.underlying5 rfl rfl (((S3.blk 1 rfl).cell _).trans (cell_fz z))) rfl ?_
  refine L_y (y_gtr rfl rfl) rfl ?_
  refine L_nil ?_
  refine hK6 _ _ ?_
  refine T_cond rfl (fun h23 => ?_) (fun h23 => ?_)
  ·
    have hfr : cl l (fz z - 1 + 1) = cl l (fz z) := by rw [show fz z - 1 + 1 = fz z by omega]
    refine T_drawnL [(0, true), (1, true), (2, true), (3, true), (4, true), (5, true), (6, true), (7, true), (8, true)] hmix (by kernel_rfl) fun w4 l4 => ?_
    have S4 := S3.like l4
    refine DL_y rfl (y_move rfl) rfl ?_
    refine DL_y rfl (y_idxA0 Try.underlying23 sz5 rfl rfl inferInstance (by omega)) rfl ?_
    refine DL_y rfl (y_ldc Try.underlying5 rfl rfl (((S4.blk 1 rfl).cell _).trans (cell_fz z))) rfl ?_
    refine DL_y rfl (y_sub rfl rfl (u8w (by omega))) rfl ?_
    refine DL_y rfl (y_nilp rfl) rfl ?_
    refine DL_y rfl (y_fieldA 1 Try.underlying97 rfl sz95 rfl rfl rfl) rfl ?_
    refine DL_y rfl (y_idxA1 Try.underlying95 sz3 rfl rfl (Nt.mk (by omega) : Nt _ (fz z - 1)) (by omega)) rfl ?_
    refine DL_y rfl (y_ldc Try.underlying3 rfl rfl (((S4.blk 0 rfl).cell _).trans (idx_fan _ _ _ _ _ (by omega)))) rfl ?_
    refine DL_y rfl (y_assign rfl) rfl ?_
    refine DL_nil ?_
    refine hK5 _ _ ?_
    refine T_seq fun K7 hK7 => ?_
    refine T_region ?_
    refine L_y (y_move rfl) rfl ?_
    refine L_y (y_nilp rfl) rfl ?_
    refine L_y (y_fieldA 0 Try.underlying97 rfl sz94 rfl rfl rfl) rfl ?_
    refine L_y (y_ldc Try.underlying94 rfl rfl (((S4.blk 0 rfl).cell _).trans (idx_row _ _ _ _ _))) rfl ?_
    refine L_y (y_move rfl) rfl ?_
    refine L_y (y_move rfl) rfl ?_
    refine L_y (y_slice Try.underlying94 sz119 rfl rfl rfl (Nt.mk (by omega) : Nt _ (cl l (fz z))) (Nt.mk (by omega) : Nt _ (cl l (fz z + 1))) (by omega) (by omega)) rfl ?_
    refine L_y (y_assign rfl) rfl ?_
    refine L_nil ?_
    refine hK7 _ _ ?_
    refine T_seq fun K8 hK8 => ?_
    refine T_region ?_
    refine L_y (y_move rfl) rfl ?_
    refine L_y (y_ldW Try.underlying23 rfl sz23 rfl (S4.blk 1 rfl) (id_whole z)) rfl ?_
    refine L_y (y_build rfl (built_id z)) rfl ?_
    refine L_o (o_call Try.func81 rfl rfl (bsearch _ _ _ (sub l (cl l (fz z)) (cl l (fz z + 1))) ⟨z, 0, 0⟩ w4 (sub_rs (S4.rdM hl hne) (by omega) (by omega)) (sub_str hs _ _) (Nat.le_trans (sub_len _ _ _) h9)) rfl rfl ?_)
    rintro e5 w5 ⟨v5, rfl, l5, p, hat, rfl⟩
    refine ⟨_, rfl, ?_⟩
    have S5 := S4.like l5
    refine L_y (y_move rfl) rfl ?_
    refine L_y (y_extract rfl rfl) rfl ?_
    refine L_y (y_extract rfl rfl) rfl ?_
    refine L_y (y_assign rfl) rfl ?_
    refine L_y (y_assign rfl) rfl ?_
    refine L_nil ?_
    refine hK8 _ _ ?_
    refine T_seq fun K9 hK9 => ?_
    refine T_seq fun K10 hK10 => ?_
    refine T_region ?_
    refine L_y (y_move rfl) rfl ?_
    refine L_y ((by first | exact y_notD rfl | exact y_not rfl)) rfl ?_
    refine L_nil ?_
    refine hK10 _ _ ?_
    refine T_condB rfl (fun h47 => ?_) (fun h47 => ?_)
    ·
      refine T_seq fun K11 hK11 => ?_
      refine T_region ?_
      refine L_y (y_build rfl (show _ = some (plf zR).toArray by kernel_rfl)) rfl ?_
      refine L_o (o_stW S5 2 rfl rfl rfl (by rw [plf_sz]; exact sz62) (by first | (rw [plf_sz, plf_sz]; done) | (rw [plf_sz]; rfl)) (fun u hu => plf_one _ u (by rw [List.toList_toArray] at hu; exact hu)) fun w6 S6 => ?_)
      refine L_y (y_assign rfl) rfl ?_
      refine L_nil ?_
      refine hK11 _ _ ?_
      refine T_ret ?_
      repeat (first | with_reducible refine up_then ?_ | with_reducible refine up_in ?_)
      refine retct rfl rfl rfl (S6.blk 2 rfl) Try.underlying62 rfl (by rw [plf_sz]; exact sz62) ?_
      exact ⟨_, rfl, like_same hx (S6.turned1 0 rfl), .inr ⟨no_find hs hat (by simpa using h47), rfl⟩⟩
    ·
      refine T_skip ?_
      refine hK9 _ _ ?_
      refine T_seq fun K12 hK12 => ?_
      obtain ⟨x, hx8⟩ : ∃ x, (sub l (cl l (fz z)) (cl l (fz z + 1)))[p]? = some x := by cases e : (sub l (cl l (fz z)) (cl l (fz z + 1)))[p]? with | none => simp [e] at h47 | some x => exact ⟨x, rfl⟩
      have hx9 := sub_get hx8
      refine T_region ?_
      refine L_y (y_move rfl) rfl ?_
      refine L_y (y_move rfl) rfl ?_
      refine L_y (y_idx Try.underlying94 sz119 rfl rfl (sub_rs (S5.rdM hl hne) (by omega) (by omega)) (Nt.mk (by omega) : Nt _ (p)) (by omega)) rfl ?_
      refine L_y (y_ldp (f := rowf) rowf_len Try.underlying119 rfl sz119 rfl (sub_rs (S5.rdM hl hne) (by omega) (by omega)) (by omega) hx8) rfl ?_
      refine L_o (o_call Try.func82 rfl rfl (place x w5) rfl rfl ?_)
      rintro e7 w7 ⟨v7, rfl, l7, rfl⟩
      refine ⟨_, rfl, ?_⟩
      have S7 := S5.like l7
      refine L_o (o_stW S7 2 rfl rfl rfl (by rw [plf_sz]; exact sz62) (by first | (rw [plf_sz, plf_sz]; done) | (rw [plf_sz]; rfl)) (fun u hu => plf_one _ u (by rw [List.toList_toArray] at hu; exact hu)) fun w8 S8 => ?_)
      refine L_y (y_assign rfl) rfl ?_
      refine L_nil ?_
      refine hK12 _ _ ?_
      refine T_ret ?_
      repeat (first | with_reducible refine up_then ?_ | with_reducible refine up_in ?_)
      refine retct rfl rfl rfl (S8.blk 2 rfl) Try.underlying62 rfl (by rw [plf_sz]; exact sz62) ?_
      exact ⟨_, rfl, like_same hx (S8.turned1 0 rfl), .inl ⟨_, x, hx9.1, by simpa [hx8] using h47, rfl⟩⟩
  ·
    have hfr : cl l (fz z) = 0 := by rw [show fz z = 0 by omega, cl_zero]
    refine T_skip ?_
    refine hK5 _ _ ?_
    refine T_seq fun K13 hK13 => ?_
    refine T_region ?_
    refine L_y (y_move rfl) rfl ?_
    refine L_y (y_nilp rfl) rfl ?_
    refine L_y (y_fieldA 0 Try.underlying97 rfl sz94 rfl rfl rfl) rfl ?_
    refine L_y (y_ldc Try.underlying94 rfl rfl (((S3.blk 0 rfl).cell _).trans (idx_row _ _ _ _ _))) rfl ?_
    refine L_y (y_move rfl) rfl ?_
    refine L_y (y_move rfl) rfl ?_
    refine L_y (y_slice Try.underlying94 sz119 rfl rfl rfl (Nt.mk (by omega) : Nt _ (cl l (fz z))) (Nt.mk (by omega) : Nt _ (cl l (fz z + 1))) (by omega) (by omega)) rfl ?_
    refine L_y (y_assign rfl) rfl ?_
    refine L_nil ?_
    refine hK13 _ _ ?_
    refine T_seq fun K14 hK14 => ?_
    refine T_region ?_
    refine L_y (y_move rfl) rfl ?_
    refine L_y (y_ldW Try.underlying23 rfl sz23 rfl (S3.blk 1 rfl) (id_whole z)) rfl ?_
    refine L_y (y_build rfl (built_id z)) rfl ?_
    refine L_o (o_call Try.func81 rfl rfl (bsearch _ _ _ (sub l (cl l (fz z)) (cl l (fz z + 1))) ⟨z, 0, 0⟩ w3 (sub_rs (S3.rdM hl hne) (by omega) (by omega)) (sub_str hs _ _) (Nat.le_trans (sub_len _ _ _) h9)) rfl rfl ?_)
    rintro e9 w9 ⟨v9, rfl, l9, p, hat, rfl⟩
    refine ⟨_, rfl, ?_⟩
    have S9 := S3.like l9
    refine L_y (y_move rfl) rfl ?_
    refine L_y (y_extract rfl rfl) rfl ?_
    refine L_y (y_extract rfl rfl) rfl ?_
    refine L_y (y_assign rfl) rfl ?_
    refine L_y (y_assign rfl) rfl ?_
    refine L_nil ?_
    refine hK14 _ _ ?_
    refine T_seq fun K15 hK15 => ?_
    refine T_seq fun K16 hK16 => ?_
    refine T_region ?_
    refine L_y (y_move rfl) rfl ?_
    refine L_y ((by first | exact y_notD rfl | exact y_not rfl)) rfl ?_
    refine L_nil ?_
    refine hK16 _ _ ?_
    refine T_condB rfl (fun h47 => ?_) (fun h47 => ?_)
    ·
      refine T_seq fun K17 hK17 => ?_
      refine T_region ?_
      refine L_y (y_build rfl (show _ = some (plf zR).toArray by kernel_rfl)) rfl ?_
      refine L_o (o_stW S9 2 rfl rfl rfl (by rw [plf_sz]; exact sz62) (by first | (rw [plf_sz, plf_sz]; done) | (rw [plf_sz]; rfl)) (fun u hu => plf_one _ u (by rw [List.toList_toArray] at hu; exact hu)) fun w10 S10 => ?_)
      refine L_y (y_assign rfl) rfl ?_
      refine L_nil ?_
      refine hK17 _ _ ?_
      refine T_ret ?_
      repeat (first | with_reducible refine up_then ?_ | with_reducible refine up_in ?_)
      refine retct rfl rfl rfl (S10.blk 2 rfl) Try.underlying62 rfl (by rw [plf_sz]; exact sz62) ?_
      exact ⟨_, rfl, like_same hx (S10.turned1 0 rfl), .inr ⟨no_find hs hat (by simpa using h47), rfl⟩⟩
    ·
      refine T_skip ?_
      refine hK15 _ _ ?_
      refine T_seq fun K18 hK18 => ?_
      obtain ⟨x, hx8⟩ : ∃ x, (sub l (cl l (fz z)) (cl l (fz z + 1)))[p]? = some x := by cases e : (sub l (cl l (fz z)) (cl l (fz z + 1)))[p]? with | none => simp [e] at h47 | some x => exact ⟨x, rfl⟩
      have hx9 := sub_get hx8
      refine T_region ?_
      refine L_y (y_move rfl) rfl ?_
      refine L_y (y_move rfl) rfl ?_
      refine L_y (y_idx Try.underlying94 sz119 rfl rfl (sub_rs (S9.rdM hl hne) (by omega) (by omega)) (Nt.mk (by omega) : Nt _ (p)) (by omega)) rfl ?_
      refine L_y (y_ldp (f := rowf) rowf_len Try.underlying119 rfl sz119 rfl (sub_rs (S9.rdM hl hne) (by omega) (by omega)) (by omega) hx8) rfl ?_
      refine L_o (o_call Try.func82 rfl rfl (place x w9) rfl rfl ?_)
      rintro e11 w11 ⟨v11, rfl, l11, rfl⟩
      refine ⟨_, rfl, ?_⟩
      have S11 := S9.like l11
      refine L_o (o_stW S11 2 rfl rfl rfl (by rw [plf_sz]; exact sz62) (by first | (rw [plf_sz, plf_sz]; done) | (rw [plf_sz]; rfl)) (fun u hu => plf_one _ u (by rw [List.toList_toArray] at hu; exact hu)) fun w12 S12 => ?_)
      refine L_y (y_assign rfl) rfl ?_
      refine L_nil ?_
      refine hK18 _ _ ?_
      refine T_ret ?_
      repeat (first | with_reducible refine up_then ?_ | with_reducible refine up_in ?_)
      refine retct rfl rfl rfl (S12.blk 2 rfl) Try.underlying62 rfl (by rw [plf_sz]; exact sz62) ?_
      exact ⟨_, rfl, like_same hx (S12.turned1 0 rfl), .inl ⟨_, x, hx9.1, by simpa [hx8] using h47, rfl⟩⟩
end Go.Proofs.Ytgaklngnfecdaaa.Idx


/-
  Reading an index: plain laws.
-/
namespace Go.Proofs.Ytgaklngnfecdaaa.Idx
open Go.RowKit Zk Zx
open Oid (idf idf_len cmpL)
set_option linter.unusedVariables false
set_option linter.unusedSimpArgs false

/-- What stands at a place: an id, a number of four bytes. -/
def idAt (t : List UInt8) (p : Nat) : Oid.Id := if h : ((t.drop p).take 32).length = 32 then ⟨(t.drop p).take 32, h⟩ else zI
def b4 (t : List UInt8) (p : Nat) : Nat := Oct.be ((t.drop p).take 4)
theorem idAt_l {t : List UInt8} {p : Nat} (h : p + 32 ≤ t.length) : (idAt t p).l = (t.drop p).take 32 := by
  unfold idAt
  rw [dif_pos (by rw [List.length_take, List.length_drop]; omega)]
theorem b4_lt (t : List UInt8) (p : Nat) : b4 t p < 4294967296 := by
  unfold b4
  have h := Oct.be_lt ((t.drop p).take 4)
  have h2 : 256 ^ ((t.drop p).take 4).length ≤ 256 ^ 4 := Nat.pow_le_pow_right (by omega) (by rw [List.length_take]; omega)
  have h3 : (256 : Nat) ^ 4 = 4294967296 := by decide
  omega
/-- The rows read so far. -/
def rowsP (t : List UInt8) (n k1 k2 k3 : Nat) : List Row := (List.range n).map fun i => ⟨if i < k1 then idAt t (1024 + 32 * i) else zI, if i < k2 then (b4 t (1024 + 32 * n + 4 * i) : Int) else 0, if i < k3 then (b4 t (1024 + 36 * n + 4 * i) : Int) else 0⟩
theorem rowsP_len (t : List UInt8) (n k1 k2 k3 : Nat) : (rowsP t n k1 k2 k3).length = n := by simp [rowsP]
theorem rowsP_get {t : List UInt8} {n k1 k2 k3 i : Nat} (h : i < n) : (rowsP t n k1 k2 k3)[i]? = some ⟨if i < k1 then idAt t (1024 + 32 * i) else zI, if i < k2 then (b4 t (1024 + 32 * n + 4 * i) : Int) else 0, if i < k3 then (b4 t (1024 + 36 * n + 4 * i) : Int) else 0⟩ := by
  simp [rowsP, h]
theorem rowsP_id {t : List UInt8} {n k : Nat} {x : Row} (h : k < n) (hx : (rowsP t n k 0 0)[k]? = some x) : (rowsP t n k 0 0).set k { x with id := idAt t (1024 + 32 * k) } = rowsP t n (k + 1) 0 0 := by
  rw [rowsP_get h] at hx
  cases hx
  apply List.ext_getElem?
  intro i
  rw [List.getElem?_set]
  by_cases hi : i < n
  · rw [rowsP_get hi, rowsP_get hi]
    by_cases e : k = i
    · subst e; simp [rowsP_len, h]
    · rw [if_neg e]
      have : (i < k + 1) ↔ (i < k) := by omega
      simp [this]
  · rw [List.getElem?_eq_none (by rw [rowsP_len]; omega), List.getElem?_eq_none (by rw [rowsP_len]; omega), if_neg (by omega)]
/-- A field stored in a row of the flat cells. -/
theorem flat_id {L : List Row} {k : Nat} {x : Row} (z : Oid.Id) (hx : L[k]? = some x) : (L.flatMap rowf).take (k * 34 + 0) ++ (idf z) ++ (L.flatMap rowf).drop (k * 34 + 0 + 32) = (L.set k { x with id := z }).flatMap rowf := by
  have hk := (List.getElem?_eq_some_iff.1 hx).1
  rw [← flat_set rowf rowf_len L k _ hk, Nat.add_zero]
  have e : (L.flatMap rowf).drop (k * 34 + 32) = (rowf x).drop 32 ++ (L.flatMap rowf).drop ((k + 1) * 34) := by
    have h1 := flat_cut rowf 34 rowf_len L k x hx
    rw [← h1, List.drop_take, List.drop_drop, show (k + 1) * 34 = k * 34 + 32 + 2 by omega]
    rw [← List.drop_drop (i := 2) (j := k * 34 + 32), List.take_append_drop]
  rw [e]
  unfold rowf
  rw [List.drop_append_of_le_length (by rw [idf_len]; omega), List.drop_of_length_le (by rw [idf_len]; omega)]
  simp
theorem flat_fld {L : List Row} {k o : Nat} {x y : Row} {v : Value} (hx : L[k]? = some x) (ho : o < 34) (hy : rowf y = (rowf x).set o v) : (L.flatMap rowf).set (k * 34 + o) v = (L.set k y).flatMap rowf := by
  have hk := (List.getElem?_eq_some_iff.1 hx).1
  have hself : L.set k x = L := by
    obtain ⟨h1, h2⟩ := List.getElem?_eq_some_iff.1 hx
    rw [← h2, List.set_getElem_self]
  have e0 := flat_set rowf rowf_len L k x hk
  rw [hself] at e0
  rw [← flat_set rowf rowf_len L k _ hk, hy]
  have hT : ((L.flatMap rowf).take (k * 34)).length = k * 34 := by
    rw [List.length_take, flat_len rowf 34 rowf_len]
    have : (k + 1) * 34 ≤ L.length * 34 := Nat.mul_le_mul_right _ hk
    omega
  conv => lhs; rw [← e0]
  rw [List.set_append_left _ _ (by rw [List.length_append, hT, rowf_len]; omega), List.set_append_right _ _ (by rw [hT]; omega), hT, show k * 34 + o - k * 34 = o by omega]
end Go.Proofs.Ytgaklngnfecdaaa.Idx


/-
  Reading an index: more laws.
-/
namespace Go.Proofs.Ytgaklngnfecdaaa.Idx
open Go.RowKit Zk Zx
open Oid (idf idf_len cmpL)
set_option linter.unusedVariables false
set_option linter.unusedSimpArgs false

open Oct (rdr)
theorem rw_ok {l : List UInt8} {p k : Nat} (h : p + k ≤ l.length) : Oct.rwL l p 0 k = (l.drop p).take k ∧ Oct.rwP l p 0 k = p + k ∧ Oct.rwE l p 0 k = 0 := by
  have h2 : k ≤ l.length - p := by omega
  exact ⟨by rw [Oct.rwL, if_pos rfl, Oct.tkL, if_pos h2], by rw [Oct.rwP, if_pos rfl, Oct.tkP, if_pos h2], by rw [Oct.rwE, if_pos rfl, Oct.tkE_ok h2]⟩
/-- 256 numbers, so many of them given. -/
def arrG (f : Nat → Int) (i : Nat) : List Value := ((List.range i).map fun c => Value.int .i64 (f c)) ++ List.replicate (256 - i) (.int .i64 0)
theorem arrG_len (f : Nat → Int) {i : Nat} (h : i ≤ 256) : (arrG f i).length = 256 := by simp [arrG]; omega
theorem arrG_one (f : Nat → Int) (i : Nat) : ∀ u ∈ arrG f i, u.oneCell' = true := fun u hu => by
  unfold arrG at hu
  rcases List.mem_append.1 hu with h | h
  · obtain ⟨c, _, rfl⟩ := List.mem_map.1 h; rfl
  · rw [(List.mem_replicate.1 h).2]; rfl
theorem arrG_set (f : Nat → Int) {i : Nat} (h : i < 256) : (arrG f i).toArray.setIfInBounds i (.int .i64 (f i)) = (arrG f (i + 1)).toArray := by
  rw [List.setIfInBounds_toArray]
  congr 1
  unfold arrG
  rw [List.set_append_right _ _ (by simp), List.range_succ, List.map_append, List.append_assoc]
  congr 1
  rw [show 256 - i = (256 - (i + 1)) + 1 by omega, List.replicate_succ]
  simp
/-- An index' block while it is read. -/
def idxG (A : Option Addr) (n c : Nat) (fs : List Value) (of : Oid.Id) : List Value := [.slice A n c] ++ fs ++ idf of
def said (t : List UInt8) : List Value := arrG (fun c => (b4 t (4 * c) : Int)) 256
end Go.Proofs.Ytgaklngnfecdaaa.Idx


/-
  Results, one of them in a variable; a callee's state taken over whole.
-/
namespace Go.Proofs.Ytgaklngnfecdaaa.Zx
open Go.RowKit Zk
set_option linter.unusedVariables false
set_option linter.unusedSimpArgs false
theorem St.adoptS {w0 w w' : World} {M : Nat → Prop} {rs qs : List Res} (S : St w0 M rs w) (T : St w noM qs w') : St w0 M (rs ++ qs) w' := by
  have S' := S.like T.like0
  refine ⟨S'.os, S'.tape, S'.output, S'.size, S'.old, fun q hq => ?_, ?_⟩
  · rcases List.mem_append.1 hq with hq | hq
    · exact S'.res q hq
    · refine ⟨(T.res q hq).1, fun i hi => ?_⟩
      have h := (T.res q hq).2 i hi
      refine ⟨h.1, .inl ?_⟩
      rcases h.2 with h2 | h2
      · exact Nat.le_trans S.size h2
      · exact h2.elim
  · rw [List.pairwise_append]
    refine ⟨S'.apart, T.apart, fun q hq s hs i hi hsi => ?_⟩
    have h1 := ((S.res q hq).2 i hi).1
    have h2 := ((T.res s hs).2 i hsi).2
    rcases h2 with h2 | h2
    · omega
    · exact h2
section
variable {P : Program} {N : Nat} {Q : Exit → Env → World → Prop} {env : Env} {w w0 : World}
theorem resT_B {fn : Func} {p q : Tmp} {ty : TypeId} (h : fn.results = #[.tmp q, .cell p ty]) (tmps : Array Value) {g : Nat} {t : TypeId} {cs : Array Value}
    (hp : tmps.getD p undef = .pointer (some ⟨g, 0, none⟩)) (hb : Blk w g t cs) (d : TypeDesc) (hu : P.underlying ty = some d) (hd : d.isRow = true) (hi : (P.info? ty).map (·.size) = some cs.size) :
    (results fn tmps).run P w = .ok (.tuple #[tmps.getD q undef, .agg cs]) w := by
  have hp' : tmps[p]?.getD undef = .pointer (some ⟨g, 0, none⟩) := by simpa using hp
  simp [results, h, hp', asAddr, run_loadB hb d hu hd hi]
theorem rettc {fn : Func} {R : Ending → World → Prop} {p q : Tmp} {lt b t : Nat} {cs : Array Value} {d : TypeDesc} {v : Value} (hr : fn.results = #[.tmp q, .cell p lt]) (hp : look env p = some (.pointer (some ⟨b, 0, none⟩))) (hq : look env q = some v) (hb : Blk w b t cs) (hd : P.underlying lt = some d) (hrow : d.isRow = true)
    (hsz : (P.info? lt).map (·.size) = some cs.size) (h : R (.returned (.tuple #[v, .agg cs])) w) (hd0 : dfs env = [] := by rfl) : bodyQ P fn R .ret env w :=
  ⟨hd0, _, fun N a ha => by rw [resT_B hr a.tmps (ha.getD hp) hb d hd hrow hsz, ha.getD hq], h⟩
variable {S : World → Prop} {dst : Option Tmp} {ty : TypeId} {pos : String} {after : Array Edge} {gd : Option (Nat × Bool)}
/-- '!=' on arrays of ints. -/
theorem y_neA {x y : Operand} {t e u : TypeId} {n : Nat} {xs ys : Array Value} (f g : Nat → Int) (ht : P.underlying t = some (.array n e)) (he : P.underlying e = some (.int .i64)) (hs : (P.info? e).map (·.size) = some 1) (hm : P.eqGuardType P.depth t = false)
    (hx : ev env x = some (.agg xs)) (hy : ev env y = some (.agg ys)) (hf : ∀ i, i < n → xs[i]? = some (.int .i64 (f i))) (hg : ∀ i, i < n → ys[i]? = some (.int .i64 (g i))) :
    Y P S env ⟨dst, .binOp .neq t x y u, ty, pos, after, gd⟩ (.bool (!((List.range n).all fun i => f i == g i))) := fun N a w ha _ => by
  have h1 := run_neq_struct (P := P) w t xs ys
  rw [run_equalIn_arr' w 9999 ht _ he rfl hs xs ys f g hf hg (fun x y => run_equalIn_int w 9998 e .i64 .i64 x y he), Result.andThen_ok] at h1
  simp only [execOp, ha.eval hx, ha.eval hy, Sem.run_bind, eqGuard_run .neq x y _ _ hm w, Result.andThen_ok, h1, Sem.run_pure]
theorem all_ne {n : Nat} {f g : Nat → Int} : (!((List.range n).all fun i => f i == g i)) = true ↔ ¬ ∀ i, i < n → f i = g i := by
  rw [Bool.not_eq_true', Bool.eq_false_iff, ne_eq, List.all_eq_true]
  simp
end
end Go.Proofs.Ytgaklngnfecdaaa.Zx


/-
  Reading an index.
-/
namespace Go.Proofs.Ytgaklngnfecdaaa.Idx
open Go.RowKit Zk Zx
open Oid (idf idf_len cmpL)
set_option linter.unusedVariables false
set_option linter.unusedSimpArgs false

open Oct (rdr)
theorem rs_tail {w : World} {A : Option Addr} {n c : Nat} {b : List UInt8} (k : Nat) (h : Rs w 1 A n c (bL b)) (h1 : k ≤ n) : Rs w 1 (cutA A c k 1) (n - k) (c - k) (bL (b.drop k)) := by
  have h2 := h.cutb (l := k) (u := n) h1 (Nat.le_refl _)
  rwa [List.take_of_length_le (by rw [List.length_drop, h.lenb]; omega)] at h2
theorem flat_rep {x : Row} {n i : Nat} (h : i < n * 34) : ((List.replicate n x).flatMap rowf)[i]? = (rowf x)[i % 34]? := by
  have hd := Nat.div_add_mod i 34
  have hm := Nat.mod_lt i (y := 34) (by omega)
  have hk : i / 34 < n := by omega
  have e : i = i / 34 * 34 + i % 34 := by omega
  conv => lhs; rw [e]
  exact flat_at rowf 34 rowf_len _ _ x (by rw [List.getElem?_replicate, if_pos hk]) _ hm
theorem rows0 (t : List UInt8) (n : Nat) : List.replicate n zR = rowsP t n 0 0 0 := by
  apply List.ext_getElem?
  intro i
  by_cases h : i < n
  · rw [rowsP_get h, List.getElem?_replicate, if_pos h]; rfl
  · rw [List.getElem?_eq_none (by simp; omega), List.getElem?_eq_none (by rw [rowsP_len]; omega)]
theorem row_set32 (x : Row) (v : Int) : rowf { x with sm := v } = (rowf x).set 32 (.int .u32 v) := by
  unfold rowf
  rw [List.set_append_right _ _ (by rw [idf_len]; omega), idf_len]
  rfl
theorem row_set33 (x : Row) (v : Int) : rowf { x with at_ := v } = (rowf x).set 33 (.int .i64 v) := by
  unfold rowf
  rw [List.set_append_right _ _ (by rw [idf_len]; omega), idf_len]
  rfl
theorem rowsP_sm {t : List UInt8} {n k : Nat} {x : Row} (h : k < n) (hx : (rowsP t n n k 0)[k]? = some x) : (rowsP t n n k 0).set k { x with sm := (b4 t (1024 + 32 * n + 4 * k) : Int) } = rowsP t n n (k + 1) 0 := by
  rw [rowsP_get h] at hx
  cases hx
  apply List.ext_getElem?
  intro i
  rw [List.getElem?_set]
  by_cases hi : i < n
  · rw [rowsP_get hi, rowsP_get hi]
    by_cases e : k = i
    · subst e; simp [rowsP_len, h]
    · rw [if_neg e]
      have : (i < k + 1) ↔ (i < k) := by omega
      simp [this]
  · rw [List.getElem?_eq_none (by rw [rowsP_len]; omega), List.getElem?_eq_none (by rw [rowsP_len]; omega), if_neg (by omega)]
theorem rowsP_at {t : List UInt8} {n k : Nat} {x : Row} (h : k < n) (hx : (rowsP t n n n k)[k]? = some x) : (rowsP t n n n k).set k { x with at_ := (b4 t (1024 + 36 * n + 4 * k) : Int) } = rowsP t n n n (k + 1) := by
  rw [rowsP_get h] at hx
  cases hx
  apply List.ext_getElem?
  intro i
  rw [List.getElem?_set]
  by_cases hi : i < n
  · rw [rowsP_get hi, rowsP_get hi]
    by_cases e : k = i
    · subst e; simp [rowsP_len, h]
    · rw [if_neg e]
      have : (i < k + 1) ↔ (i < k) := by omega
      simp [this]
  · rw [List.getElem?_eq_none (by rw [rowsP_len]; omega), List.getElem?_eq_none (by rw [rowsP_len]; omega), if_neg (by omega)]
theorem idxG_row (A : Option Addr) (n c : Nat) (fs : List Value) (of : Oid.Id) : (idxG A n c fs of).toArray[0]? = some (.slice A n c) := rfl
theorem idxG_of {A : Option Addr} {n c : Nat} {fs : List Value} {of z : Oid.Id} (h : fs.length = 256) : ((idxG A n c fs of).toArray.toList.take 257 ++ (idf z).toArray.toList ++ (idxG A n c fs of).toArray.toList.drop (257 + (idf z).toArray.size)).toArray = (idxG A n c fs z).toArray := by
  congr 1
  rw [List.drop_of_length_le (by simp [idxG, h, idf_len]), List.append_nil]
  unfold idxG
  rw [List.toList_toArray, List.take_append_of_le_length (by simp [h]), List.take_of_length_le (by simp [h])]
theorem idxG_len {A : Option Addr} {n c : Nat} {fs : List Value} {of : Oid.Id} (h : fs.length = 256) : (idxG A n c fs of).toArray.size = 289 := by simp [idxG, h, idf_len]
theorem said_whole (f : Nat → Int) (i : Nat) (h : i ≤ 256) : ((arrG f i).toArray.toList.drop 0).take 256 = arrG f i ∧ (arrG f i).length = 256 := ⟨by rw [List.drop_zero]; exact List.take_of_length_le (by have := arrG_len f h; simp only [] at this ⊢; omega), arrG_len f h⟩
/-- What read answers. -/
def Red (w0 w' : World) (b : List UInt8) (n : Nat) (u : Value) : Prop := ∃ g A1, u = .tuple #[.pointer (some ⟨g, 0, none⟩), .agg (said (b.drop 8)).toArray] ∧ Zx.St w0 noM [Zx.row 119 34 A1 n n ((rowsP (b.drop 8) n n n n).flatMap rowf), blk g 97 (idxG A1 n n (List.replicate 256 (.int .i64 0)) (idAt (b.drop 8) (1024 + 40 * n))).toArray] w'

theorem zR_cells : (Value.agg #[.int .u8 0, .int .u8 0, .int .u8 0, .int .u8 0, .int .u8 0, .int .u8 0, .int .u8 0, .int .u8 0, .int .u8 0, .int .u8 0, .int .u8 0, .int .u8 0, .int .u8 0, .int .u8 0, .int .u8 0, .int .u8 0, .int .u8 0, .int .u8 0, .int .u8 0, .int .u8 0, .int .u8 0, .int .u8 0, .int .u8 0, .int .u8 0, .int .u8 0, .int .u8 0, .int .u8 0, .int .u8 0, .int .u8 0, .int .u8 0, .int .u8 0, .int .u8 0, .int .u32 0, .int .i64 0] : Value).cells = (rowf zR).toArray := by kernel_rfl


set_option maxRecDepth 100000 in
theorem read (B : Option Addr) (m d : Nat) (b : List UInt8) (n : Nat) (w0 : World) (hb : Rs w0 1 B m d (bL b)) (hl : b.length = 1096 + 40 * n) (hn : n ≤ 600) :
    Calls Try.prog 75 #[.slice B m d, .int .i64 (n : Int)] w0 fun e w' => ∃ u, e = .returned u ∧ Like w0 w' ∧ Red w0 w' b n u := by
  refine enter1 (env := [(0, .slice B m d), (1, .int .i64 (n : Int))]) [.slice B m d, .int .i64 (n : Int)] Try.func75 rfl Try.ntmps75 rfl rfl ?_
  have hm := hb.lenb; have hcap := hb.cap; have hmax := hb.max; have ht : (b.drop 8).length = 1088 + 40 * n := by rw [List.length_drop]; omega
  have S0 := St.start w0 noM
  refine T_seq fun K1 hK1 => ?_
  refine T_region ?_
  refine L_y (y_assign rfl) rfl ?_
  refine L_o (o_alloc zz95 S0 rfl fun b1 w1 hb1 S1 => ?_)
  refine L_nil ?_
  refine hK1 _ _ ?_
  refine T_seq fun K2 hK2 => ?_
  refine T_region ?_
  refine L_y (y_move rfl) rfl ?_
  refine L_y (y_sliceL Try.underlying27 sz5 rfl rfl inferInstance (by omega)) rfl ?_
  refine L_o (o_call Try.func71 rfl rfl (Oct.rnew _ _ _ (b.drop 8) w1 (rs_tail 8 (S1.rd hb) (by omega)) (by omega)) rfl rfl ?_)
  rintro e2 w2 ⟨v2, rfl, l2, g, A, c, rfl, hh2, dd2⟩
  refine ⟨_, rfl, ?_⟩
  have S2 := S1.new l2 _ hh2 dd2
  refine L_y (y_assign rfl) rfl ?_
  refine L_nil ?_
  refine hK2 _ _ ?_
  refine T_seq fun K3 hK3 => ?_
  refine T_region ?_
  refine L_o (o_alloc zz95 S2 rfl fun b3 w3 hb3 S3 => ?_)
  refine L_nil ?_
  refine hK3 _ _ ?_
  refine T_seq fun K4 hK4 => ?_
  refine T_seq fun K5 hK5 => ?_
  refine T_region ?_
  refine L_y (y_move rfl) rfl ?_
  refine L_nil ?_
  refine hK5 _ _ ?_
  refine T_block ?_
  refine T_loop1 [(1, _), (5, _), (6, _), (7, _)] (fun (i : Nat) => [(16, .int .i64 (i : Int))]) (fun (i : Nat) => 256 - i) (fun (i : Nat) (w : World) => i ≤ 256 ∧ Zx.St w0 noM [blk b1 95 (arrG (fun c => (b4 (b.drop 8) (4 * c) : Int)) 0).toArray, rdr g A (m - 8) c (b.drop 8) (4 * i) 0, blk b3 95 (arrG (fun c => (b4 (b.drop 8) (4 * c) : Int)) i).toArray] w) 0 (Sub.cons rfl (by first | rfl | exact congrArg (Value.int _) (by omega)) (Sub.nil _)) (Sub.cons rfl rfl (Sub.cons rfl rfl (Sub.cons rfl rfl (Sub.cons rfl rfl (Sub.nil _))))) ?_ ?_
  ·
    have S70 : Zx.St w0 noM [blk b1 95 (arrG (fun c => (b4 (b.drop 8) (4 * c) : Int)) 0).toArray, rdr g A (m - 8) c (b.drop 8) (4 * 0) 0, blk b3 95 (arrG (fun c => (b4 (b.drop 8) (4 * c) : Int)) 0).toArray] w3 := S3.cast (by kernel_rfl)
    exact ⟨by omega, S70⟩
  ·
    intro i w4 hrel
    obtain ⟨hi, S4⟩ := hrel
    refine T_seq fun K6 hK6 => ?_
    refine T_region ?_
    refine L_y (y_lss rfl rfl) rfl ?_
    refine L_nil ?_
    refine hK6 _ _ ?_
    refine T_seq fun K7 hK7 => ?_
    refine T_cond rfl (fun h17 => ?_) (fun h17 => ?_)
    ·
      refine T_skip ?_
      refine hK7 _ _ ?_
      refine T_seq fun K8 hK8 => ?_
      refine T_block ?_
      refine T_seq fun K9 hK9 => ?_
      refine T_region ?_
      refine L_y (y_move rfl) rfl ?_
      refine L_y (y_assign rfl) rfl ?_
      refine L_nil ?_
      refine hK9 _ _ ?_
      refine T_region ?_
      refine L_y (y_move rfl) rfl ?_
      refine L_y (y_move rfl) rfl ?_
      refine L_o (o_call Try.func73 rfl rfl (Oct.ru32 g A (m - 8) c (b.drop 8) (4 * i) 0 w4 (S4.get 1 rfl) (by omega) (by omega)) rfl rfl ?_)
      rintro e5 w5 ⟨v5, rfl, rfl, T5⟩
      refine ⟨_, rfl, ?_⟩
      have S5 := S4.turn 1 rfl T5
      obtain ⟨e1, e2, e3⟩ := rw_ok (l := b.drop 8) (p := 4 * i) (k := 4) (by omega)
      rw [e2, e3] at S5
      rw [e1]
      have hb4 : Oct.be (((b.drop 8).drop (4 * i)).take 4) < 4294967296 := b4_lt _ _
      rw [show 4 * i + 4 = 4 * (i + 1) by omega] at S5
      refine L_y (y_conv is60 Try.underlying3 rfl (i64w (by omega))) rfl ?_
      refine L_y (y_idxA0 Try.underlying95 sz3 rfl rfl inferInstance (by omega)) rfl ?_
      refine L_o (o_st1 S5 2 rfl rfl rfl rfl sz3 (by rw [List.size_toArray, arrG_len _ (by omega)]; omega) fun w6 S6 => ?_)
      have S90 := S6.blkc 2 rfl (arrG_set (fun c => (b4 (b.drop 8) (4 * c) : Int)) (i := i) (by omega))
      refine L_nil ?_
      refine hK8 _ _ ?_
      refine T_region ?_
      refine L_y (y_add rfl rfl (i64w (by omega))) rfl ?_
      refine L_y (y_move rfl) rfl ?_
      refine L_nil ?_
      refine ⟨i + 1, by omega, ⟨by omega, S90⟩, ?_⟩
      exact (Sub.cons rfl (by first | rfl | exact congrArg (Value.int _) (by omega)) (Sub.cons rfl rfl (Sub.cons rfl rfl (Sub.cons rfl rfl (Sub.cons rfl rfl (Sub.nil _))))))
    ·
      refine T_exit ?_
      refine hK4 _ _ ?_
      refine T_seq fun K10 hK10 => ?_
      obtain rfl : i = 256 := by omega
      refine T_region ?_
      refine L_y (y_move rfl) rfl ?_
      refine L_o (o_makeN te94 ((List.replicate n zR).flatMap rowf) (by rw [flat_len rowf 34 rowf_len, List.length_replicate]) (fun i hi => (flat_rep hi).trans (by rw [zR_cells, List.getElem?_toArray])) (by omega) S4 rfl rfl inferInstance inferInstance rfl (by omega) (by omega) (by omega) fun b7 w7 S7 => ?_)
      rw [rows0 (b.drop 8)] at S7
      refine L_y (y_build rfl (show _ = some (idxG (some ⟨b7, 0, none⟩) n n (List.replicate 256 (.int .i64 0)) zI).toArray by kernel_rfl)) rfl ?_
      refine L_o (o_box rfl S7 rfl fun b8 w8 hb8 S8 => ?_)
      refine L_y (y_assign rfl) rfl ?_
      refine L_nil ?_
      refine hK10 _ _ ?_
      refine T_seq fun K11 hK11 => ?_
      refine T_seq fun K12 hK12 => ?_
      refine T_region ?_
      refine L_y (y_move rfl) rfl ?_
      refine L_y (y_nilp rfl) rfl ?_
      refine L_y (y_fieldA 0 Try.underlying97 rfl sz94 rfl rfl rfl) rfl ?_
      refine L_y (y_ldc Try.underlying94 rfl rfl (((S8.blk 4 rfl).cell _).trans (idxG_row _ _ _ _ _))) rfl ?_
      refine L_y (y_len Try.underlying94 rfl) rfl ?_
      refine L_y (y_move rfl) rfl ?_
      refine L_nil ?_
      refine hK12 _ _ ?_
      refine T_block ?_
      refine T_loop1 [(5, _), (6, _), (7, _), (9, _), (33, _)] (fun (k : Nat) => [(34, .int .i64 (k : Int))]) (fun (k : Nat) => n - k) (fun (k : Nat) (w : World) => k ≤ n ∧ Zx.St w0 noM [blk b1 95 (arrG (fun c => (b4 (b.drop 8) (4 * c) : Int)) 0).toArray, rdr g A (m - 8) c (b.drop 8) (1024 + 32 * k) 0, blk b3 95 (arrG (fun c => (b4 (b.drop 8) (4 * c) : Int)) 256).toArray, Zx.row 119 34 (some ⟨b7, 0, none⟩) n n ((rowsP (b.drop 8) n k 0 0).flatMap rowf), blk b8 97 (idxG (some ⟨b7, 0, none⟩) n n (List.replicate 256 (.int .i64 0)) zI).toArray] w) 0 (Sub.cons rfl (by first | rfl | exact congrArg (Value.int _) (by omega)) (Sub.nil _)) (Sub.cons rfl rfl (Sub.cons rfl rfl (Sub.cons rfl rfl (Sub.cons rfl rfl (Sub.cons rfl rfl (Sub.nil _)))))) ?_ ?_
      ·
        exact ⟨by omega, S8⟩
      ·
        intro k w9 hrel
        obtain ⟨hk, S9⟩ := hrel
        refine T_seq fun K13 hK13 => ?_
        refine T_region ?_
        refine L_y (y_lss rfl rfl) rfl ?_
        refine L_nil ?_
        refine hK13 _ _ ?_
        refine T_seq fun K14 hK14 => ?_
        refine T_cond rfl (fun h35 => ?_) (fun h35 => ?_)
        ·
          obtain ⟨x, hx⟩ : ∃ x, (rowsP (b.drop 8) n k 0 0)[k]? = some x := ⟨_, List.getElem?_eq_getElem (by rw [rowsP_len]; omega)⟩
          refine T_skip ?_
          refine hK14 _ _ ?_
          refine T_seq fun K15 hK15 => ?_
          refine T_block ?_
          refine T_seq fun K16 hK16 => ?_
          refine T_region ?_
          refine L_y (y_move rfl) rfl ?_
          refine L_y (y_assign rfl) rfl ?_
          refine L_nil ?_
          refine hK16 _ _ ?_
          refine T_drawnX (fun w => Blk w b8 97 (idxG (some ⟨b7, 0, none⟩) n n (List.replicate 256 (.int .i64 0)) zI).toArray) hmix (by kernel_rfl) (fun w l => ((S9.like l).blk 4 rfl)) fun w10 l10 => ?_
          have S10 := S9.like l10
          refine DX_y 0 (by kernel_rfl) rfl (y_move rfl) rfl ?_
          refine DX_y 1 (by kernel_rfl) rfl (y_nilp rfl) rfl ?_
          refine DX_y 2 (by kernel_rfl) rfl (y_fieldA 0 Try.underlying97 rfl sz94 rfl rfl rfl) rfl ?_
          refine DX_y 3 (by kernel_rfl) rfl (y_of fun w hw => y_ldc Try.underlying94 rfl rfl ((hw.cell _).trans (idxG_row _ _ _ _ _))) rfl ?_
          refine DX_y 4 (by kernel_rfl) rfl (y_move rfl) rfl ?_
          refine DX_y 5 (by kernel_rfl) rfl (y_move rfl) rfl ?_
          refine DX_o1 6 (by kernel_rfl) rfl ?_
          refine o_call Try.func119 rfl rfl (take g A (m - 8) c (b.drop 8) (1024 + 32 * k) (idAt (b.drop 8) (1024 + 32 * k)) w10 (S10.get 1 rfl) (by omega) (by omega) (idAt_l (by omega))) rfl rfl ?_
          rintro e11 w11 ⟨v11, rfl, T11, rfl⟩
          refine ⟨_, rfl, ?_⟩
          have S11 := S10.turn 1 rfl T11
          rw [show 1024 + 32 * k + 32 = 1024 + 32 * (k + 1) by omega] at S11
          refine ⟨(S11.blk 4 rfl), ?_⟩
          refine DX_y 7 (by kernel_rfl) rfl (y_idx Try.underlying94 sz119 rfl rfl (S10.row 3 rfl) inferInstance (by omega)) rfl ?_
          refine DX_y 8 (by kernel_rfl) rfl (y_fieldR 0 Try.underlying119 rfl sz23 rfl rfl (S10.row 3 rfl) (by omega) rfl) rfl ?_
          refine DX_o1 9 (by kernel_rfl) rfl ?_
          refine o_strowF S11 3 rfl rfl rfl (fun u hu => bL_one _ u (by rw [List.toList_toArray] at hu; exact hu)) (by rw [List.size_toArray, idf_len]) sz23 (by omega) (by omega) fun w12 S12 => ?_
          refine ⟨(S12.blk 4 rfl), ?_⟩
          refine DX_nil (by kernel_rfl) ?_
          refine hK15 _ _ ?_
          refine T_region ?_
          refine L_y (y_add rfl rfl (i64w (by omega))) rfl ?_
          refine L_y (y_move rfl) rfl ?_
          refine L_nil ?_
          have S91 := S12.rowc 3 rfl rfl ((flat_id (idAt (b.drop 8) (1024 + 32 * k)) hx).trans (congrArg (fun q => q.flatMap rowf) (rowsP_id (by omega) hx)))
          refine ⟨k + 1, by omega, ⟨by omega, S91⟩, ?_⟩
          exact (Sub.cons rfl (by first | rfl | exact congrArg (Value.int _) (by omega)) (Sub.cons rfl rfl (Sub.cons rfl rfl (Sub.cons rfl rfl (Sub.cons rfl rfl (Sub.cons rfl rfl (Sub.nil _)))))))
        ·
          obtain rfl : n = k := by omega
          refine T_exit ?_
          refine hK11 _ _ ?_
          refine T_seq fun K17 hK17 => ?_
          refine T_seq fun K18 hK18 => ?_
          refine T_region ?_
          refine L_y (y_move rfl) rfl ?_
          refine L_y (y_nilp rfl) rfl ?_
          refine L_y (y_fieldA 0 Try.underlying97 rfl sz94 rfl rfl rfl) rfl ?_
          refine L_y (y_ldc Try.underlying94 rfl rfl (((S9.blk 4 rfl).cell _).trans (idxG_row _ _ _ _ _))) rfl ?_
          refine L_y (y_len Try.underlying94 rfl) rfl ?_
          refine L_y (y_move rfl) rfl ?_
          refine L_nil ?_
          refine hK18 _ _ ?_
          refine T_block ?_
          refine T_loop1 [(5, _), (6, _), (7, _), (9, _), (51, _)] (fun (k : Nat) => [(52, .int .i64 (k : Int))]) (fun (k : Nat) => n - k) (fun (k : Nat) (w : World) => k ≤ n ∧ Zx.St w0 noM [blk b1 95 (arrG (fun c => (b4 (b.drop 8) (4 * c) : Int)) 0).toArray, rdr g A (m - 8) c (b.drop 8) (1024 + 32 * n + 4 * k) 0, blk b3 95 (arrG (fun c => (b4 (b.drop 8) (4 * c) : Int)) 256).toArray, Zx.row 119 34 (some ⟨b7, 0, none⟩) n n ((rowsP (b.drop 8) n n k 0).flatMap rowf), blk b8 97 (idxG (some ⟨b7, 0, none⟩) n n (List.replicate 256 (.int .i64 0)) zI).toArray] w) 0 (Sub.cons rfl (by first | rfl | exact congrArg (Value.int _) (by omega)) (Sub.nil _)) (Sub.cons rfl rfl (Sub.cons rfl rfl (Sub.cons rfl rfl (Sub.cons rfl rfl (Sub.cons rfl rfl (Sub.nil _)))))) ?_ ?_
          ·
            exact ⟨by omega, S9⟩
          ·
            intro k w13 hrel
            obtain ⟨hk, S13⟩ := hrel
            refine T_seq fun K19 hK19 => ?_
            refine T_region ?_
            refine L_y (y_lss rfl rfl) rfl ?_
            refine L_nil ?_
            refine hK19 _ _ ?_
            refine T_seq fun K20 hK20 => ?_
            refine T_cond rfl (fun h53 => ?_) (fun h53 => ?_)
            ·
              obtain ⟨x, hx⟩ : ∃ x, (rowsP (b.drop 8) n n k 0)[k]? = some x := ⟨_, List.getElem?_eq_getElem (by rw [rowsP_len]; omega)⟩
              refine T_skip ?_
              refine hK20 _ _ ?_
              refine T_seq fun K21 hK21 => ?_
              refine T_block ?_
              refine T_seq fun K22 hK22 => ?_
              refine T_region ?_
              refine L_y (y_move rfl) rfl ?_
              refine L_y (y_assign rfl) rfl ?_
              refine L_nil ?_
              refine hK22 _ _ ?_
              refine T_drawnX (fun w => Blk w b8 97 (idxG (some ⟨b7, 0, none⟩) n n (List.replicate 256 (.int .i64 0)) zI).toArray) hmix (by kernel_rfl) (fun w l => ((S13.like l).blk 4 rfl)) fun w14 l14 => ?_
              have S14 := S13.like l14
              refine DX_y 0 (by kernel_rfl) rfl (y_move rfl) rfl ?_
              refine DX_y 1 (by kernel_rfl) rfl (y_nilp rfl) rfl ?_
              refine DX_y 2 (by kernel_rfl) rfl (y_fieldA 0 Try.underlying97 rfl sz94 rfl rfl rfl) rfl ?_
              refine DX_y 3 (by kernel_rfl) rfl (y_of fun w hw => y_ldc Try.underlying94 rfl rfl ((hw.cell _).trans (idxG_row _ _ _ _ _))) rfl ?_
              refine DX_y 4 (by kernel_rfl) rfl (y_move rfl) rfl ?_
              refine DX_y 5 (by kernel_rfl) rfl (y_move rfl) rfl ?_
              refine DX_o1 6 (by kernel_rfl) rfl ?_
              refine o_call Try.func73 rfl rfl (Oct.ru32 g A (m - 8) c (b.drop 8) (1024 + 32 * n + 4 * k) 0 w14 (S14.get 1 rfl) (by omega) (by omega)) rfl rfl ?_
              rintro e15 w15 ⟨v15, rfl, rfl, T15⟩
              refine ⟨_, rfl, ?_⟩
              have S15 := S14.turn 1 rfl T15
              obtain ⟨e1, e2, e3⟩ := rw_ok (l := b.drop 8) (p := 1024 + 32 * n + 4 * k) (k := 4) (by omega)
              rw [e2, e3] at S15
              rw [e1]
              have hb4 : Oct.be (((b.drop 8).drop (1024 + 32 * n + 4 * k)).take 4) < 4294967296 := b4_lt _ _
              rw [show 1024 + 32 * n + 4 * k + 4 = 1024 + 32 * n + 4 * (k + 1) by omega] at S15
              refine ⟨(S15.blk 4 rfl), ?_⟩
              refine DX_y 7 (by kernel_rfl) rfl (y_idx Try.underlying94 sz119 rfl rfl (S14.row 3 rfl) inferInstance (by omega)) rfl ?_
              refine DX_y 8 (by kernel_rfl) rfl (y_fieldR 32 Try.underlying119 rfl sz60 rfl rfl (S14.row 3 rfl) (by omega) rfl) rfl ?_
              refine DX_o1 9 (by kernel_rfl) rfl ?_
              refine o_strowN S15 3 rfl rfl rfl rfl sz60 (by omega) fun w16 S16 => ?_
              refine ⟨(S16.blk 4 rfl), ?_⟩
              refine DX_nil (by kernel_rfl) ?_
              refine hK21 _ _ ?_
              refine T_region ?_
              refine L_y (y_add rfl rfl (i64w (by omega))) rfl ?_
              refine L_y (y_move rfl) rfl ?_
              refine L_nil ?_
              have S91 := S16.rowc 3 rfl rfl ((flat_fld (y := { x with sm := (b4 (b.drop 8) (1024 + 32 * n + 4 * k) : Int) }) hx (by omega) (row_set32 x _)).trans (congrArg (fun q => q.flatMap rowf) (rowsP_sm (by omega) hx)))
              refine ⟨k + 1, by omega, ⟨by omega, S91⟩, ?_⟩
              exact (Sub.cons rfl (by first | rfl | exact congrArg (Value.int _) (by omega)) (Sub.cons rfl rfl (Sub.cons rfl rfl (Sub.cons rfl rfl (Sub.cons rfl rfl (Sub.cons rfl rfl (Sub.nil _)))))))
            ·
              obtain rfl : n = k := by omega
              refine T_exit ?_
              refine hK17 _ _ ?_
              refine T_seq fun K23 hK23 => ?_
              refine T_seq fun K24 hK24 => ?_
              refine T_region ?_
              refine L_y (y_move rfl) rfl ?_
              refine L_y (y_nilp rfl) rfl ?_
              refine L_y (y_fieldA 0 Try.underlying97 rfl sz94 rfl rfl rfl) rfl ?_
              refine L_y (y_ldc Try.underlying94 rfl rfl (((S13.blk 4 rfl).cell _).trans (idxG_row _ _ _ _ _))) rfl ?_
              refine L_y (y_len Try.underlying94 rfl) rfl ?_
              refine L_y (y_move rfl) rfl ?_
              refine L_nil ?_
              refine hK24 _ _ ?_
              refine T_block ?_
              refine T_loop1 [(5, _), (6, _), (7, _), (9, _), (69, _)] (fun (k : Nat) => [(70, .int .i64 (k : Int))]) (fun (k : Nat) => n - k) (fun (k : Nat) (w : World) => k ≤ n ∧ Zx.St w0 noM [blk b1 95 (arrG (fun c => (b4 (b.drop 8) (4 * c) : Int)) 0).toArray, rdr g A (m - 8) c (b.drop 8) (1024 + 36 * n + 4 * k) 0, blk b3 95 (arrG (fun c => (b4 (b.drop 8) (4 * c) : Int)) 256).toArray, Zx.row 119 34 (some ⟨b7, 0, none⟩) n n ((rowsP (b.drop 8) n n n k).flatMap rowf), blk b8 97 (idxG (some ⟨b7, 0, none⟩) n n (List.replicate 256 (.int .i64 0)) zI).toArray] w) 0 (Sub.cons rfl (by first | rfl | exact congrArg (Value.int _) (by omega)) (Sub.nil _)) (Sub.cons rfl rfl (Sub.cons rfl rfl (Sub.cons rfl rfl (Sub.cons rfl rfl (Sub.cons rfl rfl (Sub.nil _)))))) ?_ ?_
              ·
                rw [show 1024 + 32 * n + 4 * n = 1024 + 36 * n + 4 * 0 by omega] at S13
                exact ⟨by omega, S13⟩
              ·
                intro k w17 hrel
                obtain ⟨hk, S17⟩ := hrel
                refine T_seq fun K25 hK25 => ?_
                refine T_region ?_
                refine L_y (y_lss rfl rfl) rfl ?_
                refine L_nil ?_
                refine hK25 _ _ ?_
                refine T_seq fun K26 hK26 => ?_
                refine T_cond rfl (fun h71 => ?_) (fun h71 => ?_)
                ·
                  obtain ⟨x, hx⟩ : ∃ x, (rowsP (b.drop 8) n n n k)[k]? = some x := ⟨_, List.getElem?_eq_getElem (by rw [rowsP_len]; omega)⟩
                  refine T_skip ?_
                  refine hK26 _ _ ?_
                  refine T_seq fun K27 hK27 => ?_
                  refine T_block ?_
                  refine T_seq fun K28 hK28 => ?_
                  refine T_region ?_
                  refine L_y (y_move rfl) rfl ?_
                  refine L_y (y_assign rfl) rfl ?_
                  refine L_nil ?_
                  refine hK28 _ _ ?_
                  refine T_drawnX (fun w => Blk w b8 97 (idxG (some ⟨b7, 0, none⟩) n n (List.replicate 256 (.int .i64 0)) zI).toArray) hmix (by kernel_rfl) (fun w l => ((S17.like l).blk 4 rfl)) fun w18 l18 => ?_
                  have S18 := S17.like l18
                  refine DX_y 0 (by kernel_rfl) rfl (y_move rfl) rfl ?_
                  refine DX_y 1 (by kernel_rfl) rfl (y_nilp rfl) rfl ?_
                  refine DX_y 2 (by kernel_rfl) rfl (y_fieldA 0 Try.underlying97 rfl sz94 rfl rfl rfl) rfl ?_
                  refine DX_y 3 (by kernel_rfl) rfl (y_of fun w hw => y_ldc Try.underlying94 rfl rfl ((hw.cell _).trans (idxG_row _ _ _ _ _))) rfl ?_
                  refine DX_y 4 (by kernel_rfl) rfl (y_move rfl) rfl ?_
                  refine DX_y 5 (by kernel_rfl) rfl (y_move rfl) rfl ?_
                  refine DX_o1 6 (by kernel_rfl) rfl ?_
                  refine o_call Try.func73 rfl rfl (Oct.ru32 g A (m - 8) c (b.drop 8) (1024 + 36 * n + 4 * k) 0 w18 (S18.get 1 rfl) (by omega) (by omega)) rfl rfl ?_
                  rintro e19 w19 ⟨v19, rfl, rfl, T19⟩
                  refine ⟨_, rfl, ?_⟩
                  have S19 := S18.turn 1 rfl T19
                  obtain ⟨e1, e2, e3⟩ := rw_ok (l := b.drop 8) (p := 1024 + 36 * n + 4 * k) (k := 4) (by omega)
                  rw [e2, e3] at S19
                  rw [e1]
                  have hb4 : Oct.be (((b.drop 8).drop (1024 + 36 * n + 4 * k)).take 4) < 4294967296 := b4_lt _ _
                  rw [show 1024 + 36 * n + 4 * k + 4 = 1024 + 36 * n + 4 * (k + 1) by omega] at S19
                  refine ⟨(S19.blk 4 rfl), ?_⟩
                  refine DX_y 7 (by kernel_rfl) rfl (y_conv is60 Try.underlying3 rfl (i64w (by omega))) rfl ?_
                  refine DX_y 8 (by kernel_rfl) rfl (y_idx Try.underlying94 sz119 rfl rfl (S18.row 3 rfl) inferInstance (by omega)) rfl ?_
                  refine DX_y 9 (by kernel_rfl) rfl (y_fieldR 33 Try.underlying119 rfl sz3 rfl rfl (S18.row 3 rfl) (by omega) rfl) rfl ?_
                  refine DX_o1 10 (by kernel_rfl) rfl ?_
                  refine o_strowN S19 3 rfl rfl rfl rfl sz3 (by omega) fun w20 S20 => ?_
                  refine ⟨(S20.blk 4 rfl), ?_⟩
                  refine DX_nil (by kernel_rfl) ?_
                  refine hK27 _ _ ?_
                  refine T_region ?_
                  refine L_y (y_add rfl rfl (i64w (by omega))) rfl ?_
                  refine L_y (y_move rfl) rfl ?_
                  refine L_nil ?_
                  have S91 := S20.rowc 3 rfl rfl ((flat_fld (y := { x with at_ := (b4 (b.drop 8) (1024 + 36 * n + 4 * k) : Int) }) hx (by omega) (row_set33 x _)).trans (congrArg (fun q => q.flatMap rowf) (rowsP_at (by omega) hx)))
                  refine ⟨k + 1, by omega, ⟨by omega, S91⟩, ?_⟩
                  exact (Sub.cons rfl (by first | rfl | exact congrArg (Value.int _) (by omega)) (Sub.cons rfl rfl (Sub.cons rfl rfl (Sub.cons rfl rfl (Sub.cons rfl rfl (Sub.cons rfl rfl (Sub.nil _)))))))
                ·
                  obtain rfl : n = k := by omega
                  rw [show 1024 + 36 * n + 4 * n = 1024 + 40 * n by omega] at S17
                  refine T_exit ?_
                  refine hK23 _ _ ?_
                  refine T_seq fun K29 hK29 => ?_
                  refine T_region ?_
                  refine L_y (y_move rfl) rfl ?_
                  refine L_y (y_move rfl) rfl ?_
                  refine L_o (o_call Try.func119 rfl rfl (take g A (m - 8) c (b.drop 8) (1024 + 40 * n) (idAt (b.drop 8) (1024 + 40 * n)) w17 (S17.get 1 rfl) (by omega) (by omega) (idAt_l (by omega))) rfl rfl ?_)
                  rintro e21 w21 ⟨v21, rfl, T21, rfl⟩
                  refine ⟨_, rfl, ?_⟩
                  have S21 := S17.turn 1 rfl T21
                  refine L_y (y_nilp rfl) rfl ?_
                  refine L_y (y_fieldA 257 Try.underlying97 rfl sz23 rfl rfl rfl) rfl ?_
                  refine L_o (o_stR S21 4 rfl rfl rfl (by rw [List.size_toArray, idf_len]; exact sz23) (by rw [idxG_len (by simp), List.size_toArray, idf_len]; omega) (fun u hu => bL_one _ u (by rw [List.toList_toArray] at hu; exact hu)) fun w22 S22 => ?_)
                  have S90 := S22.blkc 4 rfl (idxG_of (by simp))
                  refine L_nil ?_
                  refine hK29 _ _ ?_
                  refine T_seq fun K30 hK30 => ?_
                  refine T_tail 3 hmix (by kernel_rfl) fun w23 l23 K31 hK31 => ?_
                  have S23 := S90.like l23
                  refine HL_y (y_move rfl) rfl ?_
                  refine HL_y (y_ldW Try.underlying95 rfl sz95 rfl (S23.blk 2 rfl) (said_whole _ 256 (Nat.le_refl _))) rfl ?_
                  refine HL_y (y_assign rfl) rfl ?_
                  refine HL_nil ?_
                  refine hK31 _ ?_
                  refine L_o (o_stW S23 0 rfl rfl rfl (by rw [List.size_toArray, arrG_len _ (by omega)]; exact sz95) (by rw [List.size_toArray, List.size_toArray, arrG_len _ (by omega), arrG_len _ (by omega)]) (fun u hu => arrG_one _ _ u (by rw [List.toList_toArray] at hu; exact hu)) fun w24 S24 => ?_)
                  refine L_nil ?_
                  refine hK30 _ _ ?_
                  refine T_ret ?_
                  repeat (first | with_reducible refine up_then ?_ | with_reducible refine up_in ?_)
                  refine rettc rfl rfl rfl (S24.blk 0 rfl) Try.underlying95 rfl (by rw [List.size_toArray, arrG_len _ (by omega)]; exact sz95) ?_
                  exact ⟨_, rfl, S24.like0, b8, _, rfl, S24.sel [3, 4] (by decide)⟩
end Go.Proofs.Ytgaklngnfecdaaa.Idx


/-
  Open.
-/
namespace Go.Proofs.Ytgaklngnfecdaaa.Idx
open Go.RowKit Zk Zx
open Oid (idf idf_len cmpL)
set_option linter.unusedVariables false
set_option linter.unusedSimpArgs false

open Oct (rdr)
def INDX : List UInt8 := [73, 78, 68, 88]
theorem indx_ne (l : List UInt8) : ((⟨l.toArray⟩ : ByteArray) ≠ ⟨#[73, 78, 68, 88]⟩) ↔ l ≠ INDX := by
  constructor
  · intro h e; exact h (by rw [e]; rfl)
  · intro h e
    have e2 : l.toArray = #[73, 78, 68, 88] := congrArg ByteArray.data e
    exact h (by have := congrArg Array.toList e2; simpa [INDX] using this)
/-- What bytes say: how many rows, the rows, the trailer, the fan-out. -/
def lastN (b : List UInt8) : Nat := b4 b 1028
def rowsB (b : List UInt8) : List Row := rowsP (b.drop 8) (lastN b) (lastN b) (lastN b) (lastN b)
def ofB (b : List UInt8) : Oid.Id := idAt (b.drop 8) (1024 + 40 * lastN b)
def FanOk (b : List UInt8) (l : List Row) : Prop := ∀ c, c < 256 → (cl l (c + 1) : Int) = (b4 (b.drop 8) (4 * c) : Int)
instance (b : List UInt8) (l : List Row) : Decidable (FanOk b l) := by unfold FanOk; infer_instance
instance (l : List Row) : Decidable (StR l) := by unfold StR; infer_instance
def openE (b : List UInt8) : Int :=
  if b.length < 1096 then 10 else if b.take 4 ≠ INDX ∨ b4 b 4 ≠ 1 then 12 else if 600 < lastN b then 5 else if b.length < 1096 + 40 * lastN b then 10 else if 1096 + 40 * lastN b < b.length then 11
  else if Sha.ofL (b.take (b.length - 32)) ≠ b.drop (b.length - 32) then 13 else if ¬ StR (rowsB b) then 18 else if ¬ FanOk b (rowsB b) then 18 else if (rowsB b).any (fun x => decide (1048576 < x.at_)) then 2 else 0
section
variable {b : List UInt8}
theorem openE_10 (h : b.length < 1096) : openE b = 10 := by unfold openE; rw [if_pos h]
theorem openE_12 (h : ¬ b.length < 1096) (h2 : b.take 4 ≠ INDX ∨ b4 b 4 ≠ 1) : openE b = 12 := by unfold openE; rw [if_neg h, if_pos h2]
theorem openE_5 (h : ¬ b.length < 1096) (h2 : ¬ (b.take 4 ≠ INDX ∨ b4 b 4 ≠ 1)) (h3 : 600 < lastN b) : openE b = 5 := by unfold openE; rw [if_neg h, if_neg h2, if_pos h3]
theorem openE_10b (h : ¬ b.length < 1096) (h2 : ¬ (b.take 4 ≠ INDX ∨ b4 b 4 ≠ 1)) (h3 : ¬ 600 < lastN b) (h4 : b.length < 1096 + 40 * lastN b) : openE b = 10 := by unfold openE; rw [if_neg h, if_neg h2, if_neg h3, if_pos h4]
theorem openE_11 (h : ¬ b.length < 1096) (h2 : ¬ (b.take 4 ≠ INDX ∨ b4 b 4 ≠ 1)) (h3 : ¬ 600 < lastN b) (h4 : ¬ b.length < 1096 + 40 * lastN b) (h5 : 1096 + 40 * lastN b < b.length) : openE b = 11 := by unfold openE; rw [if_neg h, if_neg h2, if_neg h3, if_neg h4, if_pos h5]
/-- All that is asked ahead of the sum. -/
structure Pre (b : List UInt8) : Prop where
  h1 : ¬ b.length < 1096
  h2 : ¬ (b.take 4 ≠ INDX ∨ b4 b 4 ≠ 1)
  h3 : ¬ 600 < lastN b
  h4 : ¬ b.length < 1096 + 40 * lastN b
  h5 : ¬ 1096 + 40 * lastN b < b.length
theorem openE_pre (h : Pre b) : openE b = if Sha.ofL (b.take (b.length - 32)) ≠ b.drop (b.length - 32) then 13 else if ¬ StR (rowsB b) then 18 else if ¬ FanOk b (rowsB b) then 18 else if (rowsB b).any (fun x => decide (1048576 < x.at_)) then 2 else 0 := by
  unfold openE; rw [if_neg h.h1, if_neg h.h2, if_neg h.h3, if_neg h.h4, if_neg h.h5]
theorem openE_13 (h : Pre b) (h6 : Sha.ofL (b.take (b.length - 32)) ≠ b.drop (b.length - 32)) : openE b = 13 := by rw [openE_pre h, if_pos h6]
theorem openE_18 (h : Pre b) (h6 : ¬ Sha.ofL (b.take (b.length - 32)) ≠ b.drop (b.length - 32)) (h7 : ¬ StR (rowsB b)) : openE b = 18 := by rw [openE_pre h, if_neg h6, if_pos h7]
theorem openE_18b (h : Pre b) (h6 : ¬ Sha.ofL (b.take (b.length - 32)) ≠ b.drop (b.length - 32)) (h7 : StR (rowsB b)) (h8 : ¬ FanOk b (rowsB b)) : openE b = 18 := by rw [openE_pre h, if_neg h6, if_neg (fun q => q h7), if_pos h8]
theorem openE_2 (h : Pre b) (h6 : ¬ Sha.ofL (b.take (b.length - 32)) ≠ b.drop (b.length - 32)) (h7 : StR (rowsB b)) (h8 : FanOk b (rowsB b)) (h9 : (rowsB b).any (fun x => decide (1048576 < x.at_)) = true) : openE b = 2 := by rw [openE_pre h, if_neg h6, if_neg (fun q => q h7), if_neg (fun q => q h8), if_pos h9]
theorem openE_0 (h : Pre b) (h6 : ¬ Sha.ofL (b.take (b.length - 32)) ≠ b.drop (b.length - 32)) (h7 : StR (rowsB b)) (h8 : FanOk b (rowsB b)) (h9 : ¬ (rowsB b).any (fun x => decide (1048576 < x.at_)) = true) : openE b = 0 := by rw [openE_pre h, if_neg h6, if_neg (fun q => q h7), if_neg (fun q => q h8), if_neg h9]
end
/-- What Open answers. -/
def Opened (w0 w' : World) (b : List UInt8) (u : Value) : Prop := (openE b ≠ 0 ∧ Like w0 w' ∧ u = .tuple #[.pointer none, .int .i64 (openE b)]) ∨ (openE b = 0 ∧ ∃ g A, u = .tuple #[.pointer (some ⟨g, 0, none⟩), .int .i64 0] ∧ Zx.St w0 noM [Zx.row 119 34 A (rowsB b).length (rowsB b).length ((rowsB b).flatMap rowf), blk g 97 (idxf A (rowsB b).length (rowsB b).length (rowsB b) (ofB b)).toArray] w')
theorem said_at (b : List UInt8) {i : Nat} (h : i < 256) : (said (b.drop 8)).toArray[i]? = some (.int .i64 (b4 (b.drop 8) (4 * i) : Int)) := by
  rw [List.getElem?_toArray]
  unfold said arrG
  rw [List.getElem?_append_left (by simpa using h)]
  simp [h]
theorem said_len (t : List UInt8) : (said t).length = 256 := arrG_len _ (Nat.le_refl _)
theorem said_one (t : List UInt8) : ∀ u ∈ said t, u.oneCell' = true := arrG_one _ _
theorem idxG_fan {A : Option Addr} {n c : Nat} {fs : List Value} {l : List Row} {of : Oid.Id} (h : fs.length = 256) : ((idxG A n c fs of).toArray.toList.take 1 ++ (fanF l).toArray.toList ++ (idxG A n c fs of).toArray.toList.drop (1 + (fanF l).toArray.size)).toArray = (idxf A n c l of).toArray := by
  refine congrArg List.toArray ?_
  unfold idxG idxf
  rw [List.size_toArray, fanF_len, List.toList_toArray, List.toList_toArray]
  have e1 : ([Value.slice A n c] ++ fs ++ idf of).take 1 = [.slice A n c] := rfl
  have e2 : ([Value.slice A n c] ++ fs ++ idf of).drop (1 + 256) = idf of := by
    rw [List.append_assoc, ← List.drop_drop, show ([Value.slice A n c] ++ (fs ++ idf of)).drop 1 = fs ++ idf of from rfl, List.drop_append_of_le_length (by omega), List.drop_of_length_le (by omega), List.nil_append]
  rw [e1, e2]
theorem idxf_fan (A : Option Addr) (n c : Nat) (l : List Row) (of : Oid.Id) : ((idxf A n c l of).toArray.toList.drop 1).take 256 = fanF l ∧ (fanF l).length = 256 := by
  refine ⟨?_, fanF_len l⟩
  unfold idxf
  rw [List.toList_toArray, show ([Value.slice A n c] ++ fanF l ++ idf of).drop 1 = fanF l ++ idf of from rfl, List.take_append_of_le_length (by rw [fanF_len]; omega), List.take_of_length_le (by rw [fanF_len]; omega)]
theorem fan_at (l : List Row) {i : Nat} (h : i < 256) : (fanF l).toArray[i]? = some (.int .i64 (cl l (i + 1) : Int)) := fan_cell l i h
theorem str_of_adj {l : List Row} (h : ∀ i x y, i + 1 < l.length → l[i]? = some x → l[i + 1]? = some y → Oid.lt x.id y.id = true) : StR l := by
  unfold StR
  rw [List.pairwise_iff_getElem]
  intro i j hi hj hij
  obtain ⟨d, rfl⟩ : ∃ d, j = i + 1 + d := ⟨j - (i + 1), by omega⟩
  clear hij
  induction d with
  | zero => exact h i _ _ hj (List.getElem?_eq_getElem hi) (List.getElem?_eq_getElem hj)
  | succ d ih =>
    have h1 := ih (by omega)
    have h2 := h (i + 1 + d) l[i + 1 + d] l[i + 1 + (d + 1)] (by omega) (List.getElem?_eq_getElem (by omega)) (by rw [show i + 1 + d + 1 = i + 1 + (d + 1) by omega]; exact List.getElem?_eq_getElem (by omega))
    exact Oid.lt_trans _ _ _ h1 h2
theorem not_str {l : List Row} {i : Nat} {x y : Row} (hx : l[i]? = some x) (hy : l[i + 1]? = some y) (h : Oid.lt x.id y.id = false) : ¬ StR l := fun hs => by
  unfold StR at hs
  rw [List.pairwise_iff_getElem] at hs
  obtain ⟨h1, h2⟩ := List.getElem?_eq_some_iff.1 hx
  obtain ⟨h3, h4⟩ := List.getElem?_eq_some_iff.1 hy
  have := hs i (i + 1) h1 h3 (by omega)
  rw [h2, h4, h] at this
  cases this
theorem head4 (b : List UInt8) : ((b.take 1032).drop 0).take 4 = b.take 4 := by rw [List.drop_zero, List.take_take]; rfl
theorem b4_take (b : List UInt8) : Oct.be (((b.take 1032).drop (0 + 4)).take 4) = b4 b 4 := by
  unfold b4
  rw [List.drop_take, List.take_take]
  rfl
theorem b4_last (b : List UInt8) : Oct.be (((((b.drop 1028).take (1032 - 1028)).drop 0)).take 4) = lastN b := by
  unfold lastN b4
  rw [List.drop_zero, List.take_take]
  rfl
theorem any_far {l : List Row} {k : Nat} {x : Row} (hx : l[k]? = some x) (h : 1048576 < x.at_) : l.any (fun x => decide (1048576 < x.at_)) = true := by
  rw [List.any_eq_true]
  exact ⟨x, List.mem_of_getElem? hx, decide_eq_true h⟩
theorem no_far {l : List Row} (h : ∀ i x, i < l.length → l[i]? = some x → ¬ 1048576 < x.at_) : ¬ l.any (fun x => decide (1048576 < x.at_)) = true := fun q => by
  rw [List.any_eq_true] at q
  obtain ⟨x, hx, q⟩ := q
  obtain ⟨i, hi⟩ := List.mem_iff_getElem?.1 hx
  exact h i x (List.getElem?_eq_some_iff.1 hi).1 hi (of_decide_eq_true q)


set_option maxRecDepth 100000 in
theorem open_ (B : Option Addr) (m d : Nat) (b : List UInt8) (w0 : World) (hb : Rs w0 1 B m d (bL b)) :
    Calls Try.prog 28 #[.slice B m d] w0 fun e w' => ∃ u, e = .returned u ∧ Opened w0 w' b u := by
  refine enter1 (env := [(0, .slice B m d)]) [.slice B m d] Try.func28 rfl Try.ntmps28 rfl rfl ?_
  have hm := hb.lenb; have hcap := hb.cap; have hmax := hb.max
  have S0 := St.start w0 noM
  refine T_seq fun K1 hK1 => ?_
  refine T_region ?_
  refine L_y (y_assign rfl) rfl ?_
  refine L_y (y_assign rfl) rfl ?_
  refine L_nil ?_
  refine hK1 _ _ ?_
  refine T_seq fun K2 hK2 => ?_
  refine T_seq fun K3 hK3 => ?_
  refine T_region ?_
  refine L_y (y_move rfl) rfl ?_
  refine L_y (y_len Try.underlying27 rfl) rfl ?_
  refine L_y (y_lss rfl rfl) rfl ?_
  refine L_nil ?_
  refine hK3 _ _ ?_
  refine T_cond rfl (fun h15 => ?_) (fun h15 => ?_)
  ·
    refine T_seq fun K4 hK4 => ?_
    refine T_region ?_
    refine L_y (y_assign rfl) rfl ?_
    refine L_y (y_assign rfl) rfl ?_
    refine L_nil ?_
    refine hK4 _ _ ?_
    refine T_ret ?_
    repeat (first | with_reducible refine up_then ?_ | with_reducible refine up_in ?_)
    refine ret2 rfl rfl rfl ?_
    have he : openE b = 10 := openE_10 (by omega)
    exact ⟨_, rfl, .inl ⟨by rw [he]; decide, S0.like0, by rw [he]⟩⟩
  ·
    refine T_skip ?_
    refine hK2 _ _ ?_
    refine T_seq fun K5 hK5 => ?_
    refine T_region ?_
    refine L_y (y_move rfl) rfl ?_
    refine L_y (y_sliceH Try.underlying27 sz5 rfl rfl inferInstance (by omega)) rfl ?_
    refine L_o (o_call Try.func71 rfl rfl (Oct.rnew _ _ _ (b.take 1032) w0 ((S0.rd hb).cutb (l := 0) (u := 1032) (by omega) (by omega)) (by omega)) rfl rfl ?_)
    rintro e1 w1 ⟨v1, rfl, l1, g1, A1, c1, rfl, hh1, dd1⟩
    refine ⟨_, rfl, ?_⟩
    have S1 := S0.new l1 _ hh1 dd1
    refine L_y (y_assign rfl) rfl ?_
    refine L_nil ?_
    refine hK5 _ _ ?_
    refine T_seq fun K6 hK6 => ?_
    refine T_seq fun K7 hK7 => ?_
    refine T_region ?_
    refine L_y (y_move rfl) rfl ?_
    refine L_o (o_call Try.func72 rfl rfl (Oct.rraw g1 A1 (1032 - 0) c1 (b.take 1032) 0 0 (4 : Nat) w1 (S1.get 0 rfl) (by omega) (by omega) (by omega)) rfl rfl ?_)
    rintro e2 w2 ⟨v2, rfl, T2, B7, d7, rfl, hr2, hd2⟩
    refine ⟨_, rfl, ?_⟩
    have S2 := S1.turn 0 rfl T2
    obtain ⟨e1, e2, e3⟩ := Oct.rn_ok (l := b.take 1032) (p := 0) (k := 4) (by rw [List.length_take]; omega)
    rw [e1, head4] at hr2 hd2
    rw [e2, e3] at S2
    rw [e1, head4]
    refine L_y (y_bstr Try.underlying27 Try.underlying5 Try.underlying9 rfl (by first | exact S2.rd hb | exact rs_of_row hr2 | exact S2.row 0 rfl)) rfl ?_
    refine L_y (y_sneq rfl rfl) rfl ?_
    refine L_y (y_move rfl) rfl ?_
    refine L_split 23 rfl (fun h23 => ?_) (fun h23 => ?_)
    ·
      refine L_gno rfl rfl rfl ?_
      refine L_gno rfl rfl rfl ?_
      refine L_gno rfl rfl rfl ?_
      refine L_y ((by first | exact y_pickT rfl rfl | exact y_pickF rfl rfl)) rfl ?_
      refine L_nil ?_
      refine hK7 _ _ ?_
      refine T_true rfl ?_
      refine T_seq fun K8 hK8 => ?_
      refine T_region ?_
      refine L_y (y_assign rfl) rfl ?_
      refine L_y (y_assign rfl) rfl ?_
      refine L_nil ?_
      refine hK8 _ _ ?_
      refine T_ret ?_
      repeat (first | with_reducible refine up_then ?_ | with_reducible refine up_in ?_)
      refine ret2 rfl rfl rfl ?_
      have he : openE b = 12 := openE_12 (by omega) (by first | exact .inl ((indx_ne _).1 h23) | exact .inr (fun q => h27 (by have h9 := b4_take b; omega)))
      exact ⟨_, rfl, .inl ⟨by rw [he]; decide, S2.like0, by rw [he]⟩⟩
    ·
      have hx0 : b.take 4 = INDX := by by_cases q : b.take 4 = INDX; exact q; exact absurd ((indx_ne _).2 q) h23
      refine L_gyes rfl rfl ?_
      refine L_y (y_move rfl) rfl ?_
      refine L_gyes rfl rfl ?_
      refine L_o (o_call Try.func73 rfl rfl (Oct.ru32 g1 A1 (1032 - 0) c1 (b.take 1032) (0 + 4) 0 w2 (S2.get 0 rfl) (by rw [List.length_take]; omega) (by omega)) rfl rfl ?_)
      rintro e4 w4 ⟨v4, rfl, rfl, T4⟩
      refine ⟨_, rfl, ?_⟩
      have S4 := S2.turn 0 rfl T4
      obtain ⟨e1, e2, e3⟩ := rw_ok (l := b.take 1032) (p := 0 + 4) (k := 4) (by rw [List.length_take]; omega)
      rw [e1]
      refine L_gyes rfl rfl ?_
      refine L_y (y_neq rfl rfl) rfl ?_
      refine L_y ((by first | exact y_pickT rfl rfl | exact y_pickF rfl rfl)) rfl ?_
      refine L_nil ?_
      refine hK7 _ _ ?_
      refine T_cond rfl (fun h27 => ?_) (fun h27 => ?_)
      ·
        refine T_seq fun K9 hK9 => ?_
        refine T_region ?_
        refine L_y (y_assign rfl) rfl ?_
        refine L_y (y_assign rfl) rfl ?_
        refine L_nil ?_
        refine hK9 _ _ ?_
        refine T_ret ?_
        repeat (first | with_reducible refine up_then ?_ | with_reducible refine up_in ?_)
        refine ret2 rfl rfl rfl ?_
        have he : openE b = 12 := openE_12 (by omega) (by first | exact .inl ((indx_ne _).1 h23) | exact .inr (fun q => h27 (by have h9 := b4_take b; omega)))
        exact ⟨_, rfl, .inl ⟨by rw [he]; decide, S4.like0, by rw [he]⟩⟩
      ·
        have hform : ¬ (b.take 4 ≠ INDX ∨ b4 b 4 ≠ 1) := fun q => by rcases q with q | q; exact q hx0; exact q (by have h9 := b4_take b; omega)
        refine T_skip ?_
        refine hK6 _ _ ?_
        refine T_seq fun K10 hK10 => ?_
        refine T_region ?_
        refine L_y (y_move rfl) rfl ?_
        refine L_y (y_slice Try.underlying27 sz5 rfl rfl rfl inferInstance inferInstance (by omega) (by omega)) rfl ?_
        refine L_o (o_call Try.func71 rfl rfl (Oct.rnew _ _ _ ((b.drop 1028).take (1032 - 1028)) w4 ((S4.rd hb).cutb (l := 1028) (u := 1032) (by omega) (by omega)) (by omega)) rfl rfl ?_)
        rintro e5 w5 ⟨v5, rfl, l5, g3, A3, c3, rfl, hh5, dd5⟩
        refine ⟨_, rfl, ?_⟩
        have S5 := S4.new l5 _ hh5 dd5
        refine L_o (o_call Try.func73 rfl rfl (Oct.ru32 g3 A3 (1032 - 1028) c3 ((b.drop 1028).take (1032 - 1028)) 0 0 w5 (S5.get 1 rfl) (by omega) (by omega)) rfl rfl ?_)
        rintro e6 w6 ⟨v6, rfl, rfl, T6⟩
        refine ⟨_, rfl, ?_⟩
        have S6 := S5.turn 1 rfl T6
        obtain ⟨e1, e2, e3⟩ := rw_ok (l := (b.drop 1028).take (1032 - 1028)) (p := 0) (k := 4) (by rw [List.length_take, List.length_drop]; omega)
        rw [e1, b4_last]
        have hlast : lastN b < 4294967296 := b4_lt _ _
        refine L_y (y_assign rfl) rfl ?_
        refine L_nil ?_
        refine hK10 _ _ ?_
        refine T_seq fun K11 hK11 => ?_
        refine T_seq fun K12 hK12 => ?_
        refine T_region ?_
        refine L_y (y_move rfl) rfl ?_
        refine L_y (y_gtr rfl rfl) rfl ?_
        refine L_nil ?_
        refine hK12 _ _ ?_
        refine T_cond rfl (fun h33 => ?_) (fun h33 => ?_)
        ·
          refine T_seq fun K13 hK13 => ?_
          refine T_region ?_
          refine L_y (y_assign rfl) rfl ?_
          refine L_y (y_assign rfl) rfl ?_
          refine L_nil ?_
          refine hK13 _ _ ?_
          refine T_ret ?_
          repeat (first | with_reducible refine up_then ?_ | with_reducible refine up_in ?_)
          refine ret2 rfl rfl rfl ?_
          have he : openE b = 5 := openE_5 (by omega) hform (by omega)
          exact ⟨_, rfl, .inl ⟨by rw [he]; decide, S6.like0, by rw [he]⟩⟩
        ·
          refine T_skip ?_
          refine hK11 _ _ ?_
          refine T_seq fun K14 hK14 => ?_
          refine T_region ?_
          refine L_y (y_move rfl) rfl ?_
          refine L_y (y_conv is60 Try.underlying3 rfl (i64w (by omega))) rfl ?_
          refine L_y (y_assign rfl) rfl ?_
          refine L_nil ?_
          refine hK14 _ _ ?_
          refine T_seq fun K15 hK15 => ?_
          refine T_seq fun K16 hK16 => ?_
          refine T_region ?_
          refine L_y (y_move rfl) rfl ?_
          refine L_y (y_mul rfl rfl (i64w (by omega))) rfl ?_
          refine L_y (y_add rfl rfl (i64w (by omega))) rfl ?_
          refine L_y (y_add rfl rfl (i64w (by omega))) rfl ?_
          refine L_y (y_assign rfl) rfl ?_
          refine L_nil ?_
          refine hK16 _ _ ?_
          refine T_block ?_
          refine T_seq fun K17 hK17 => ?_
          refine T_region ?_
          refine L_y (y_move rfl) rfl ?_
          refine L_y (y_len Try.underlying27 rfl) rfl ?_
          refine L_y (y_move rfl) rfl ?_
          refine L_y (y_lss rfl rfl) rfl ?_
          refine L_y (y_assign rfl) rfl ?_
          refine L_nil ?_
          refine hK17 _ _ ?_
          refine T_cond rfl (fun h40 => ?_) (fun h40 => ?_)
          ·
            refine T_seq fun K18 hK18 => ?_
            refine T_region ?_
            refine L_y (y_assign rfl) rfl ?_
            refine L_y (y_assign rfl) rfl ?_
            refine L_nil ?_
            refine hK18 _ _ ?_
            refine T_ret ?_
            repeat (first | with_reducible refine up_then ?_ | with_reducible refine up_in ?_)
            refine ret2 rfl rfl rfl ?_
            have he : openE b = 10 := openE_10b (by omega) hform (by omega) (by omega)
            exact ⟨_, rfl, .inl ⟨by rw [he]; decide, S6.like0, by rw [he]⟩⟩
          ·
            refine T_seq fun K19 hK19 => ?_
            refine T_region ?_
            refine L_y (y_move rfl) rfl ?_
            refine L_y (y_len Try.underlying27 rfl) rfl ?_
            refine L_y (y_move rfl) rfl ?_
            refine L_y (y_gtr rfl rfl) rfl ?_
            refine L_y (y_assign rfl) rfl ?_
            refine L_nil ?_
            refine hK19 _ _ ?_
            refine T_cond rfl (fun h45 => ?_) (fun h45 => ?_)
            ·
              refine T_seq fun K20 hK20 => ?_
              refine T_region ?_
              refine L_y (y_assign rfl) rfl ?_
              refine L_y (y_assign rfl) rfl ?_
              refine L_nil ?_
              refine hK20 _ _ ?_
              refine T_ret ?_
              repeat (first | with_reducible refine up_then ?_ | with_reducible refine up_in ?_)
              refine ret2 rfl rfl rfl ?_
              have he : openE b = 11 := openE_11 (by omega) hform (by omega) (by omega) (by omega)
              exact ⟨_, rfl, .inl ⟨by rw [he]; decide, S6.like0, by rw [he]⟩⟩
            ·
              have hpre : Pre b := ⟨by omega, hform, by omega, by omega, by omega⟩
              have hbl : b.length = 1096 + 40 * lastN b := by omega
              refine T_skip ?_
              refine hK15 _ _ ?_
              refine T_seq fun K21 hK21 => ?_
              refine T_seq fun K22 hK22 => ?_
              have e32 : (b.drop (b.length - 32)).take 32 = b.drop (b.length - 32) := List.take_of_length_le (by rw [List.length_drop]; omega)
              refine T_drawnL [(0, true), (1, true), (2, true), (3, true), (4, true), (7, true), (8, true), (9, true), (10, true), (11, true), (12, true), (13, true), (5, false), (6, false), (14, true)] hmix (by kernel_rfl) fun w7 l7 => ?_
              have S7 := S6.like l7
              refine DL_y rfl (y_move rfl) rfl ?_
              refine DL_y rfl (y_move rfl) rfl ?_
              refine DL_y rfl (y_len Try.underlying27 rfl) rfl ?_
              refine DL_y rfl (y_sub rfl rfl (i64w (by omega))) rfl ?_
              refine DL_y rfl (y_sliceH Try.underlying27 sz5 rfl rfl (Nt.mk (by omega) : Nt _ (b.length - 32)) (by omega)) rfl ?_
              refine DL_y rfl (y_move rfl) rfl ?_
              refine DL_y rfl (y_move rfl) rfl ?_
              refine DL_y rfl (y_len Try.underlying27 rfl) rfl ?_
              refine DL_y rfl (y_sub rfl rfl (i64w (by omega))) rfl ?_
              refine DL_y rfl (y_sliceL Try.underlying27 sz5 rfl rfl (Nt.mk (by omega) : Nt _ (b.length - 32)) (by omega)) rfl ?_
              refine DL_y rfl (y_arrAt Try.underlying23 rfl (by omega)) rfl ?_
              refine DL_y rfl (y_ldArr Try.underlying23 sz23 rfl (rs_tail (b.length - 32) (S7.rd hb) (by omega)) (by omega) (by omega)) rfl ?_
              refine DL_o rfl (o_bslL [_] te177 zz27 S7 rfl rfl rfl rfl rfl rfl rfl rfl fun b8 w8 l8 S8 => ?_)
              have q8 := l8
              refine ⟨q8, ?_⟩
              refine DL_o rfl (o_call Try.func74 rfl rfl (Sha.shaof [⟨_, _, _, b.take (b.length - 32)⟩] _ _ _ w8 (S8.row 2 rfl) (fun p hp => by obtain rfl := List.mem_singleton.1 hp; exact (S8.rd hb).cutb (l := 0) (u := b.length - 32) (by omega) (by omega)) (by rw [cat1, List.length_take]; omega) (by simp)) rfl rfl ?_)
              rintro e9 w9 ⟨v9, rfl, l9, hu9⟩
              refine ⟨_, rfl, (Like.trans q8 l9), ?_⟩
              have S9 := S8.like l9
              rw [cat1] at hu9
              subst hu9
              have q9 := (Like.trans q8 l9)
              refine DL_y rfl (y_neB Try.underlying23 Try.underlying5 sz5 (by kernel_rfl) rfl rfl (Sha.length_ofL _) (by rw [List.length_take, List.length_drop]; omega)) rfl ?_
              refine DL_nil ?_
              refine hK22 _ _ ?_
              refine T_cond rfl (fun h64 => ?_) (fun h64 => ?_)
              ·
                rw [e32] at h64
                refine T_seq fun K23 hK23 => ?_
                refine T_region ?_
                refine L_y (y_assign rfl) rfl ?_
                refine L_y (y_assign rfl) rfl ?_
                refine L_nil ?_
                refine hK23 _ _ ?_
                refine T_ret ?_
                repeat (first | with_reducible refine up_then ?_ | with_reducible refine up_in ?_)
                refine ret2 rfl rfl rfl ?_
                have he : openE b = 13 := openE_13 hpre h64
                exact ⟨_, rfl, .inl ⟨by rw [he]; decide, S9.like0, by rw [he]⟩⟩
              ·
                rw [e32] at h64
                refine T_skip ?_
                refine hK21 _ _ ?_
                refine T_seq fun K24 hK24 => ?_
                refine T_region ?_
                refine L_y (y_move rfl) rfl ?_
                refine L_y (y_move rfl) rfl ?_
                refine L_o (o_call Try.func75 rfl rfl (read B m d b (lastN b) w9 (S9.rd hb) hbl (by omega)) rfl rfl ?_)
                rintro e10 w10 ⟨v10, rfl, l10, g5, A5, rfl, T10⟩
                refine ⟨_, rfl, ?_⟩
                have S10 := S9.adoptS T10
                have hlen : (rowsB b).length = lastN b := rowsP_len _ _ _ _ _
                refine L_y (y_move rfl) rfl ?_
                refine L_y (y_extract rfl rfl) rfl ?_
                refine L_y (y_extract rfl rfl) rfl ?_
                refine L_o (o_alloc zz95 S10 rfl fun b11 w11 hb11 S11 => ?_)
                refine L_y (y_assign rfl) rfl ?_
                refine L_o (o_stW S11 5 rfl rfl rfl (by rw [List.size_toArray, said_len]; exact sz95) (by rw [List.size_toArray, said_len]; rfl) (fun u hu => said_one _ u (by rw [List.toList_toArray] at hu; exact hu)) fun w12 S12 => ?_)
                refine L_nil ?_
                refine hK24 _ _ ?_
                refine T_seq fun K25 hK25 => ?_
                refine T_seq fun K26 hK26 => ?_
                refine T_region ?_
                refine L_y (y_assign rfl) rfl ?_
                refine L_nil ?_
                refine hK26 _ _ ?_
                refine T_block ?_
                refine T_loop1 [(6, _), (8, _), (9, _)] (fun (j : Nat) => [(10, .int .i64 (j : Int))]) (fun (j : Nat) => (lastN b) - j) (fun (j : Nat) (w : World) => (1 ≤ j ∧ ∀ i x y, i + 1 < j → (rowsB b)[i]? = some x → (rowsB b)[i + 1]? = some y → Oid.lt x.id y.id = true) ∧ Zx.St w0 noM [Zx.row 119 34 A5 (lastN b) (lastN b) ((rowsB b).flatMap rowf), blk g5 97 (idxG A5 (lastN b) (lastN b) (List.replicate 256 (.int .i64 0)) (ofB b)).toArray, blk b11 95 (said (b.drop 8)).toArray] w) 1 (Sub.cons rfl (by first | rfl | exact congrArg (Value.int _) (by omega)) (Sub.nil _)) (Sub.cons rfl rfl (Sub.cons rfl rfl (Sub.cons rfl rfl (Sub.nil _)))) ?_ ?_
                ·
                  have S71 : Zx.St w0 noM [Zx.row 119 34 A5 (lastN b) (lastN b) ((rowsB b).flatMap rowf), blk g5 97 (idxG A5 (lastN b) (lastN b) (List.replicate 256 (.int .i64 0)) (ofB b)).toArray, blk b11 95 (said (b.drop 8)).toArray] w12 := S12.sel [3, 4, 5] (by decide)
                  exact ⟨⟨by omega, fun i x y hi => by omega⟩, S71⟩
                ·
                  intro j w13 hrel
                  obtain ⟨⟨hj, hasc⟩, S13⟩ := hrel
                  refine T_seq fun K27 hK27 => ?_
                  refine T_seq fun K28 hK28 => ?_
                  refine T_region ?_
                  refine L_y (y_move rfl) rfl ?_
                  refine L_y (y_move rfl) rfl ?_
                  refine L_y (y_lss rfl rfl) rfl ?_
                  refine L_nil ?_
                  refine hK28 _ _ ?_
                  refine T_cond rfl (fun h73 => ?_) (fun h73 => ?_)
                  ·
                    obtain ⟨p, hx1⟩ : ∃ x, (rowsB b)[j - 1]? = some x := ⟨_, List.getElem?_eq_getElem (by omega)⟩
                    obtain ⟨q, hx2⟩ : ∃ x, (rowsB b)[j]? = some x := ⟨_, List.getElem?_eq_getElem (by omega)⟩
                    refine T_skip ?_
                    refine hK27 _ _ ?_
                    refine T_seq fun K29 hK29 => ?_
                    refine T_block ?_
                    refine T_seq fun K30 hK30 => ?_
                    refine T_tail 15 hmix (by kernel_rfl) fun w14 l14 K31 hK31 => ?_
                    have S14 := S13.like l14
                    refine HL_y (y_move rfl) rfl ?_
                    refine HL_y (y_nilp rfl) rfl ?_
                    refine HL_y (y_fieldA 0 Try.underlying97 rfl sz94 rfl rfl rfl) rfl ?_
                    refine HL_y (y_ldc Try.underlying94 rfl rfl (((S14.blk 1 rfl).cell _).trans (idxG_row _ _ _ _ _))) rfl ?_
                    refine HL_y (y_move rfl) rfl ?_
                    refine HL_y (y_sub rfl rfl (i64w (by omega))) rfl ?_
                    refine HL_y (y_idx Try.underlying94 sz119 rfl rfl (S14.row 0 rfl) (Nt.mk (by omega) : Nt _ (j - 1)) (by omega)) rfl ?_
                    refine HL_y (y_ldp (f := rowf) rowf_len Try.underlying119 rfl sz119 rfl (S14.row 0 rfl) (by omega) hx1) rfl ?_
                    refine HL_y (y_move rfl) rfl ?_
                    refine HL_y (y_nilp rfl) rfl ?_
                    refine HL_y (y_fieldA 0 Try.underlying97 rfl sz94 rfl rfl rfl) rfl ?_
                    refine HL_y (y_ldc Try.underlying94 rfl rfl (((S14.blk 1 rfl).cell _).trans (idxG_row _ _ _ _ _))) rfl ?_
                    refine HL_y (y_move rfl) rfl ?_
                    refine HL_y (y_idx Try.underlying94 sz119 rfl rfl (S14.row 0 rfl) inferInstance (by omega)) rfl ?_
                    refine HL_y (y_ldp (f := rowf) rowf_len Try.underlying119 rfl sz119 rfl (S14.row 0 rfl) (by omega) hx2) rfl ?_
                    refine HL_nil ?_
                    refine hK31 _ ?_
                    refine L_o (o_call Try.func64 rfl rfl (cmpR p q w14) rfl rfl ?_)
                    rintro e15 w15 ⟨v15, rfl, l15, rfl⟩
                    refine ⟨_, rfl, ?_⟩
                    have S15 := S14.like l15
                    refine L_y (y_geq rfl rfl) rfl ?_
                    refine L_nil ?_
                    refine hK30 _ _ ?_
                    refine T_cond rfl (fun h92 => ?_) (fun h92 => ?_)
                    ·
                      refine T_seq fun K32 hK32 => ?_
                      refine T_region ?_
                      refine L_y (y_assign rfl) rfl ?_
                      refine L_y (y_assign rfl) rfl ?_
                      refine L_nil ?_
                      refine hK32 _ _ ?_
                      refine T_ret ?_
                      repeat (first | with_reducible refine up_then ?_ | with_reducible refine up_in ?_)
                      refine ret2 rfl rfl rfl ?_
                      have he : openE b = 18 := openE_18 hpre h64 (not_str hx1 (by rw [show j - 1 + 1 = j by omega]; exact hx2) ((Oid.cmp_ge _ _).1 (by omega)))
                      exact ⟨_, rfl, .inl ⟨by rw [he]; decide, S15.like0, by rw [he]⟩⟩
                    ·
                      refine T_skip ?_
                      refine hK29 _ _ ?_
                      refine T_region ?_
                      refine L_y (y_move rfl) rfl ?_
                      refine L_y (y_add rfl rfl (i64w (by omega))) rfl ?_
                      refine L_y (y_assign rfl) rfl ?_
                      refine L_nil ?_
                      refine ⟨j + 1, by omega, ⟨⟨by omega, fun i x y hi hx hy => by rcases Nat.lt_or_ge (i + 1) j with q | q; exact hasc i x y q hx hy; (have e9 : i = j - 1 := by omega); subst e9; rw [hx1] at hx; cases hx; rw [show j - 1 + 1 = j by omega, hx2] at hy; cases hy; exact (Oid.cmp_lt _ _).1 (by omega)⟩, S15⟩, ?_⟩
                      exact (Sub.cons rfl (by first | rfl | exact congrArg (Value.int _) (by omega)) (Sub.cons rfl rfl (Sub.cons rfl rfl (Sub.cons rfl rfl (Sub.nil _)))))
                  ·
                    have hst : StR (rowsB b) := str_of_adj (fun i x y hi hx hy => hasc i x y (by omega) hx hy)
                    refine T_exit ?_
                    refine hK25 _ _ ?_
                    refine T_seq fun K33 hK33 => ?_
                    refine T_region ?_
                    refine L_y (y_move rfl) rfl ?_
                    refine L_y (y_move rfl) rfl ?_
                    refine L_y (y_nilp rfl) rfl ?_
                    refine L_y (y_fieldA 0 Try.underlying97 rfl sz94 rfl rfl rfl) rfl ?_
                    refine L_y (y_ldc Try.underlying94 rfl rfl (((S13.blk 1 rfl).cell _).trans (idxG_row _ _ _ _ _))) rfl ?_
                    refine L_o (o_call Try.func76 rfl rfl (fanC A5 (lastN b) (lastN b) (rowsB b) w13 (S13.row 0 rfl) (StR.fs hst)) rfl rfl ?_)
                    rintro e16 w16 ⟨v16, rfl, l16, rfl⟩
                    refine ⟨_, rfl, ?_⟩
                    have S16 := S13.like l16
                    refine L_y (y_nilp rfl) rfl ?_
                    refine L_y (y_fieldA 1 Try.underlying97 rfl sz95 rfl rfl rfl) rfl ?_
                    refine L_o (o_stR S16 1 rfl rfl rfl (by rw [List.size_toArray, fanF_len]; exact sz95) (by rw [idxG_len (by simp), List.size_toArray, fanF_len]; omega) (fun u hu => fanA_one _ _ u (by rw [List.toList_toArray] at hu; exact hu)) fun w17 S17 => ?_)
                    have S90 := S17.blkc 1 rfl (idxG_fan (by simp))
                    refine L_nil ?_
                    refine hK33 _ _ ?_
                    refine T_seq fun K34 hK34 => ?_
                    refine T_seq fun K35 hK35 => ?_
                    refine T_drawnL [(0, true), (1, true), (2, true), (3, true), (4, true), (5, true)] hmix (by kernel_rfl) fun w18 l18 => ?_
                    have S18 := S90.like l18
                    refine DL_y rfl (y_move rfl) rfl ?_
                    refine DL_y rfl (y_nilp rfl) rfl ?_
                    refine DL_y rfl (y_fieldA 1 Try.underlying97 rfl sz95 rfl rfl rfl) rfl ?_
                    refine DL_y rfl (y_ldW Try.underlying95 rfl sz95 rfl (S18.blk 1 rfl) (idxf_fan _ _ _ _ _)) rfl ?_
                    refine DL_y rfl (y_ldW Try.underlying95 rfl sz95 rfl (S18.blk 2 rfl) (said_whole _ 256 (Nat.le_refl _))) rfl ?_
                    refine DL_y rfl (y_neA (fun i => (cl (rowsB b) (i + 1) : Int)) (fun i => (b4 (b.drop 8) (4 * i) : Int)) Try.underlying95 Try.underlying3 sz3 (by kernel_rfl) rfl rfl (fun i hi => fan_at _ hi) (fun i hi => said_at b hi)) rfl ?_
                    refine DL_nil ?_
                    refine hK35 _ _ ?_
                    refine T_condB rfl (fun h106 => ?_) (fun h106 => ?_)
                    ·
                      refine T_seq fun K36 hK36 => ?_
                      refine T_region ?_
                      refine L_y (y_assign rfl) rfl ?_
                      refine L_y (y_assign rfl) rfl ?_
                      refine L_nil ?_
                      refine hK36 _ _ ?_
                      refine T_ret ?_
                      repeat (first | with_reducible refine up_then ?_ | with_reducible refine up_in ?_)
                      refine ret2 rfl rfl rfl ?_
                      have he : openE b = 18 := openE_18b hpre h64 hst (all_ne.1 h106)
                      exact ⟨_, rfl, .inl ⟨by rw [he]; decide, S18.like0, by rw [he]⟩⟩
                    ·
                      have hfan : FanOk b (rowsB b) := by by_cases q : FanOk b (rowsB b); exact q; exact absurd (all_ne.2 q) (by rw [h106]; decide)
                      refine T_skip ?_
                      refine hK34 _ _ ?_
                      refine T_seq fun K37 hK37 => ?_
                      refine T_seq fun K38 hK38 => ?_
                      refine T_region ?_
                      refine L_y (y_move rfl) rfl ?_
                      refine L_y (y_nilp rfl) rfl ?_
                      refine L_y (y_fieldA 0 Try.underlying97 rfl sz94 rfl rfl rfl) rfl ?_
                      refine L_y (y_ldc Try.underlying94 rfl rfl (((S18.blk 1 rfl).cell _).trans (idx_row _ _ _ _ _))) rfl ?_
                      refine L_y (y_len Try.underlying94 rfl) rfl ?_
                      refine L_y (y_move rfl) rfl ?_
                      refine L_nil ?_
                      refine hK38 _ _ ?_
                      refine T_block ?_
                      refine T_loop1 [(8, _), (110, _), (111, _)] (fun (k : Nat) => [(112, .int .i64 (k : Int))]) (fun (k : Nat) => (lastN b) - k) (fun (k : Nat) (w : World) => (k ≤ lastN b ∧ ∀ i x, i < k → (rowsB b)[i]? = some x → ¬ 1048576 < x.at_) ∧ Zx.St w0 noM [Zx.row 119 34 A5 (lastN b) (lastN b) ((rowsB b).flatMap rowf), blk g5 97 (idxf A5 (lastN b) (lastN b) (rowsB b) (ofB b)).toArray, blk b11 95 (said (b.drop 8)).toArray] w) 0 (Sub.cons rfl (by first | rfl | exact congrArg (Value.int _) (by omega)) (Sub.nil _)) (Sub.cons rfl rfl (Sub.cons rfl rfl (Sub.cons rfl rfl (Sub.nil _)))) ?_ ?_
                      ·
                        exact ⟨⟨by omega, fun i x hi => by omega⟩, S18⟩
                      ·
                        intro k w19 hrel
                        obtain ⟨⟨hk, hno⟩, S19⟩ := hrel
                        refine T_seq fun K39 hK39 => ?_
                        refine T_region ?_
                        refine L_y (y_lss rfl rfl) rfl ?_
                        refine L_nil ?_
                        refine hK39 _ _ ?_
                        refine T_seq fun K40 hK40 => ?_
                        refine T_cond rfl (fun h113 => ?_) (fun h113 => ?_)
                        ·
                          obtain ⟨x, hx⟩ : ∃ x, (rowsB b)[k]? = some x := ⟨_, List.getElem?_eq_getElem (by omega)⟩
                          refine T_skip ?_
                          refine hK40 _ _ ?_
                          refine T_seq fun K41 hK41 => ?_
                          refine T_block ?_
                          refine T_seq fun K42 hK42 => ?_
                          refine T_region ?_
                          refine L_y (y_idx Try.underlying94 sz119 rfl rfl (S19.row 0 rfl) inferInstance (by omega)) rfl ?_
                          refine L_y (y_ldp (f := rowf) rowf_len Try.underlying119 rfl sz119 rfl (S19.row 0 rfl) (by omega) hx) rfl ?_
                          refine L_o (o_alloc zz119 S19 rfl fun b20 w20 hb20 S20 => ?_)
                          refine L_o (o_stW S20 3 rfl rfl rfl (by rw [rowf_sz]; exact sz119) (by rw [rowf_sz]; rfl) (fun u hu => rowf_one _ u (by rw [List.toList_toArray] at hu; exact hu)) fun w21 S21 => ?_)
                          refine L_nil ?_
                          refine hK42 _ _ ?_
                          refine T_seq fun K43 hK43 => ?_
                          refine T_region ?_
                          refine L_y (y_fieldA 33 Try.underlying119 rfl sz3 rfl rfl rfl) rfl ?_
                          refine L_y (y_ldc Try.underlying3 rfl rfl (((S21.blk 3 rfl).cell _).trans (row33 x))) rfl ?_
                          refine L_y (y_gtr rfl rfl) rfl ?_
                          refine L_nil ?_
                          refine hK43 _ _ ?_
                          refine T_cond rfl (fun h118 => ?_) (fun h118 => ?_)
                          ·
                            refine T_seq fun K44 hK44 => ?_
                            refine T_region ?_
                            refine L_y (y_assign rfl) rfl ?_
                            refine L_y (y_assign rfl) rfl ?_
                            refine L_nil ?_
                            refine hK44 _ _ ?_
                            refine T_ret ?_
                            repeat (first | with_reducible refine up_then ?_ | with_reducible refine up_in ?_)
                            refine ret2 rfl rfl rfl ?_
                            have he : openE b = 2 := openE_2 hpre h64 hst hfan (any_far hx (by omega))
                            exact ⟨_, rfl, .inl ⟨by rw [he]; decide, S21.like0, by rw [he]⟩⟩
                          ·
                            refine T_skip ?_
                            refine hK41 _ _ ?_
                            refine T_region ?_
                            refine L_y (y_add rfl rfl (i64w (by omega))) rfl ?_
                            refine L_y (y_move rfl) rfl ?_
                            refine L_nil ?_
                            have S91 := S21.sel [0, 1, 2] (by decide)
                            refine ⟨k + 1, by omega, ⟨⟨by omega, fun i y hi hy => by rcases Nat.lt_or_ge i k with q | q; exact hno i y q hy; (have e9 : i = k := by omega); subst e9; rw [hx] at hy; cases hy; omega⟩, S91⟩, ?_⟩
                            exact (Sub.cons rfl (by first | rfl | exact congrArg (Value.int _) (by omega)) (Sub.cons rfl rfl (Sub.cons rfl rfl (Sub.cons rfl rfl (Sub.nil _)))))
                        ·
                          refine T_exit ?_
                          refine hK37 _ _ ?_
                          refine T_seq fun K45 hK45 => ?_
                          refine T_region ?_
                          refine L_y (y_move rfl) rfl ?_
                          refine L_y (y_assign rfl) rfl ?_
                          refine L_y (y_assign rfl) rfl ?_
                          refine L_nil ?_
                          refine hK45 _ _ ?_
                          refine T_ret ?_
                          repeat (first | with_reducible refine up_then ?_ | with_reducible refine up_in ?_)
                          refine ret2 rfl rfl rfl ?_
                          have he : openE b = 0 := openE_0 hpre h64 hst hfan (no_far fun i x hi hx => hno i x (by omega) hx)
                          rw [← hlen] at S19
                          exact ⟨_, rfl, .inr ⟨he, g5, A5, rfl, S19.sel [0, 1] (by decide)⟩⟩
end Go.Proofs.Ytgaklngnfecdaaa.Idx


/-
  Of the document: Join, bytes, Closed.
-/
namespace Go.Proofs.Ytgaklngnfecdaaa.Idx
open Go.RowKit Zk Zx
open Oid (idf idf_len cmpL)
set_option linter.unusedVariables false
set_option linter.unusedSimpArgs false

def catP (ps : List Part) : List UInt8 := ps.flatMap Part.l
theorem take1L {α : Type} {l : List α} {k : Nat} {x : α} (hx : l[k]? = some x) : l.take (k + 1) = l.take k ++ [x] := by
  rw [List.take_add_one, hx]
  rfl
theorem catP_step {ps : List Part} {k : Nat} {p : Part} (hp : ps[k]? = some p) : catP (ps.take (k + 1)) = catP (ps.take k) ++ p.l := by
  unfold catP
  rw [take1L hp, List.flatMap_append]
  simp
def okP (w : World) (B : Nat) (ps : List Part) : Prop := ∀ p ∈ ps, p.ok w ∧ p.n ≤ B
theorem okP.nil (w : World) (B : Nat) : okP w B [] := fun p hp => by cases hp
theorem okP.cons {w : World} {B : Nat} {p : Part} {ps : List Part} (h1 : p.ok w) (h2 : p.n ≤ B) (h : okP w B ps) : okP w B (p :: ps) := fun q hq => by
  rcases List.mem_cons.1 hq with rfl | hq
  · exact ⟨h1, h2⟩
  · exact h q hq
theorem getP {ps : List Part} {k : Nat} {p : Part} (hp : ps[k]? = some p) : (ps.map pv)[k]? = some (.slice p.A p.n p.c) := by rw [List.getElem?_map, hp]; rfl
theorem bL_appI (a b : List UInt8) : bL a ++ bL b = bL (a ++ b) := by simp [bL]
theorem bL_take1 {l : List UInt8} {k : Nat} {x : UInt8} (hx : l[k]? = some x) : bL (l.take k) ++ [.int .u8 (x.toNat : Int)] = bL (l.take (k + 1)) := by
  rw [take1L hx, ← bL_appI]
  rfl
theorem cell_l {z : List UInt8} {k : Nat} {x : UInt8} (hx : z[k]? = some x) : (bA z)[k]? = some (.int .u8 (x.toNat : Int)) := bA_get z k x hx


set_option maxRecDepth 100000 in
theorem rjoin (A : Option Addr) (n c : Nat) (ps : List Part) (w0 : World) (hps : Rs w0 1 A n c (ps.map pv)) (hok : okP w0 100000 ps) (hn8 : n ≤ 1000) :
    Calls Try.prog 67 #[.slice A n c] w0 fun e w' => ∃ u, e = .returned u ∧ Like w0 w' ∧ ∃ A' c', u = .slice A' (catP ps).length c' ∧ w'.ownsRow w0.heap.size 5 1 (.slice A' (catP ps).length c') (catP ps).length (bL (catP ps)) := by
  refine enter1 (env := [(0, .slice A n c)]) [.slice A n c] Try.func67 rfl Try.ntmps67 rfl rfl ?_
  have hn := hps.len; rw [List.length_map] at hn; have hcap := hps.cap; have hmax := hps.max; have S0 := St.start w0 noM
  refine T_seq fun K1 hK1 => ?_
  refine T_region ?_
  refine L_y (y_assign rfl) rfl ?_
  refine L_nil ?_
  refine hK1 _ _ ?_
  refine T_seq fun K2 hK2 => ?_
  refine T_region ?_
  have S1 := S0.nilrow 5 1
  refine L_y (y_assign rfl) rfl ?_
  refine L_nil ?_
  refine hK2 _ _ ?_
  refine T_seq fun K3 hK3 => ?_
  refine T_seq fun K4 hK4 => ?_
  refine T_region ?_
  refine L_y (y_assign rfl) rfl ?_
  refine L_nil ?_
  refine hK4 _ _ ?_
  refine T_block ?_
  refine T_loop4 [(0, _)] (fun (k : Nat) (m : List UInt8) (A1 : Option Addr) (c1 : Nat) => [(4, .int .i64 (k : Int)), (3, .slice A1 m.length c1)]) (fun (k : Nat) (m : List UInt8) (A1 : Option Addr) (c1 : Nat) => n - k) (fun (k : Nat) (m : List UInt8) (A1 : Option Addr) (c1 : Nat) (w : World) => (k ≤ n ∧ m = catP (ps.take k) ∧ m.length ≤ 100000 * k) ∧ St w0 noM [Zx.row 5 1 A1 m.length c1 (bL m)] w) 0 [] none 0 (Sub.cons rfl (by first | rfl | exact congrArg (Value.int _) (by omega)) (Sub.cons rfl (by first | rfl | exact congrArg (Value.int _) (by omega)) (Sub.nil _))) (Sub.cons rfl rfl (Sub.nil _)) ?_ ?_
  ·
    exact ⟨⟨Nat.zero_le _, rfl, Nat.zero_le _⟩, S1⟩
  ·
    intro k m A1 c1 w2 hrel
    obtain ⟨⟨hk, hm, hml⟩, S2⟩ := hrel
    refine T_seq fun K5 hK5 => ?_
    refine T_seq fun K6 hK6 => ?_
    refine T_region ?_
    refine L_y (y_move rfl) rfl ?_
    refine L_y (y_move rfl) rfl ?_
    refine L_y (y_len Try.underlying177 rfl) rfl ?_
    refine L_y (y_lss rfl rfl) rfl ?_
    refine L_nil ?_
    refine hK6 _ _ ?_
    refine T_cond rfl (fun h8 => ?_) (fun h8 => ?_)
    ·
      obtain ⟨p, hp⟩ : ∃ p, ps[k]? = some p := ⟨_, List.getElem?_eq_getElem (by omega)⟩
      obtain ⟨hpo, hpb⟩ := hok p (List.mem_of_getElem? hp)
      have hpn := hpo.lenb; have hpc := hpo.cap; have hpm := hpo.max
      refine T_skip ?_
      refine hK5 _ _ ?_
      refine T_seq fun K7 hK7 => ?_
      refine T_block ?_
      refine T_region ?_
      refine L_y (y_move rfl) rfl ?_
      refine L_y (y_move rfl) rfl ?_
      refine L_y (y_move rfl) rfl ?_
      refine L_y (y_idx Try.underlying177 sz27 rfl rfl (S2.rd hps) inferInstance (by omega)) rfl ?_
      refine L_y (y_ldr Try.underlying27 rfl rfl (S2.rd hps) (getP hp)) rfl ?_
      refine L_o (o_app te27 S2 0 rfl rfl rfl (S2.rd hpo) (bL_one _) rfl (by omega) (by omega) fun A3 c3 w3 S3 => ?_)
      refine L_y (y_assign rfl) rfl ?_
      refine L_nil ?_
      refine hK7 _ _ ?_
      refine T_region ?_
      refine L_y (y_move rfl) rfl ?_
      refine L_y (y_add rfl rfl (i64w (by omega))) rfl ?_
      refine L_y (y_assign rfl) rfl ?_
      refine L_nil ?_
      have S91 := S3.rowc 0 rfl (n' := (m ++ p.l).length) (xs' := bL (m ++ p.l)) (by rw [List.length_append]; omega) (bL_appI _ _)
      refine ⟨k + 1, m ++ p.l, _, _, by omega, ⟨⟨by omega, by rw [catP_step hp, hm], by rw [List.length_append]; omega⟩, S91⟩, ?_⟩
      exact (Sub.cons rfl (by first | rfl | exact congrArg (Value.int _) (by omega)) (Sub.cons rfl (by rw [List.length_append]; congr 1; omega) (Sub.cons rfl rfl (Sub.nil _))))
    ·
      refine T_exit ?_
      refine hK3 _ _ ?_
      refine T_seq fun K8 hK8 => ?_
      refine T_region ?_
      refine L_y (y_move rfl) rfl ?_
      refine L_y (y_assign rfl) rfl ?_
      refine L_nil ?_
      refine hK8 _ _ ?_
      refine T_ret ?_
      repeat (first | with_reducible refine up_then ?_ | with_reducible refine up_in ?_)
      refine ret1 rfl rfl ?_
      have hke : k = n := by omega
      subst hke
      rw [List.take_of_length_le (by omega)] at hm
      subst hm
      exact ⟨_, rfl, S2.like0, _, _, rfl, S2.own 0 rfl⟩


set_option maxRecDepth 100000 in
theorem rbytes (z : Oid.Id) (w0 : World)  :
    Calls Try.prog 69 #[.agg (bA z.l)] w0 fun e w' => ∃ u, e = .returned u ∧ Like w0 w' ∧ ∃ A' c', u = .slice A' 32 c' ∧ w'.ownsRow w0.heap.size 5 1 (.slice A' 32 c') 32 (bL z.l) := by
  refine enter1 (env := [(0, .agg (bA z.l))]) [.agg (bA z.l)] Try.func69 rfl Try.ntmps69 rfl rfl ?_
  have S0 := St.start w0 noM
  refine T_seq fun K1 hK1 => ?_
  refine T_region ?_
  refine L_o (o_box rfl S0 rfl fun b1 w1 hb1 S1 => ?_)
  refine L_y (y_assign rfl) rfl ?_
  refine L_nil ?_
  refine hK1 _ _ ?_
  refine T_seq fun K2 hK2 => ?_
  refine T_region ?_
  have S2 := S1.nilrow 5 1
  refine L_y (y_assign rfl) rfl ?_
  refine L_nil ?_
  refine hK2 _ _ ?_
  refine T_seq fun K3 hK3 => ?_
  refine T_seq fun K4 hK4 => ?_
  refine T_region ?_
  refine L_y (y_assign rfl) rfl ?_
  refine L_nil ?_
  refine hK4 _ _ ?_
  refine T_block ?_
  refine T_loop3 [(1, _)] (fun (k : Nat) (A1 : Option Addr) (c1 : Nat) => [(4, .int .i64 (k : Int)), (3, .slice A1 k c1)]) (fun (k : Nat) (A1 : Option Addr) (c1 : Nat) => 32 - k) (fun (k : Nat) (A1 : Option Addr) (c1 : Nat) (w : World) => k ≤ 32 ∧ Zx.St w0 noM [blk b1 23 (bA z.l), Zx.row 5 1 A1 k c1 (bL ((z.l).take k))] w) 0 none 0 (Sub.cons rfl (by first | rfl | exact congrArg (Value.int _) (by omega)) (Sub.cons rfl (by first | rfl | exact congrArg (Value.int _) (by omega)) (Sub.nil _))) (Sub.cons rfl rfl (Sub.nil _)) ?_ ?_
  ·
    have S70 : Zx.St w0 noM [blk b1 23 (bA z.l), Zx.row 5 1 none 0 0 (bL ((z.l).take 0))] w1 := S2
    exact ⟨by omega, S70⟩
  ·
    intro k A1 c1 w3 hrel
    obtain ⟨hk, S3⟩ := hrel
    refine T_seq fun K5 hK5 => ?_
    refine T_seq fun K6 hK6 => ?_
    refine T_region ?_
    refine L_y (y_move rfl) rfl ?_
    refine L_y (y_lss rfl rfl) rfl ?_
    refine L_nil ?_
    refine hK6 _ _ ?_
    refine T_cond rfl (fun h6 => ?_) (fun h6 => ?_)
    ·
      have hz := z.h
      obtain ⟨x, hx⟩ : ∃ x, z.l[k]? = some x := ⟨_, List.getElem?_eq_getElem (by omega)⟩
      refine T_skip ?_
      refine hK5 _ _ ?_
      refine T_seq fun K7 hK7 => ?_
      refine T_block ?_
      refine T_region ?_
      refine L_y (y_move rfl) rfl ?_
      refine L_y (y_move rfl) rfl ?_
      refine L_y (y_idxA0 Try.underlying23 sz5 rfl rfl inferInstance (by omega)) rfl ?_
      refine L_y (y_ldc Try.underlying5 rfl rfl (((S3.blk 0 rfl).cell _).trans (cell_l hx))) rfl ?_
      refine L_o (o_bsl [_] te27 zz5 S3 rfl rfl rfl rfl rfl rfl rfl rfl fun b4 w4 S4 => ?_)
      refine L_o (o_app te27 S4 1 rfl rfl rfl (by first | exact S4.row 1 rfl | exact S4.row 2 rfl) (by first | exact bL_one _ | exact iL_one _ | (intro u hu; simp at hu; subst hu; rfl) | (simp; done) | (simp [Value.oneCell']; done)) rfl (by omega) (by omega) fun A5 c5 w5 S5 => ?_)
      have S5d := S5.drop (rs' := [_, _]) (.cons_cons _ (.cons_cons _ (.cons _ (.refl _))))
      refine L_y (y_assign rfl) rfl ?_
      refine L_nil ?_
      refine hK7 _ _ ?_
      refine T_region ?_
      refine L_y (y_move rfl) rfl ?_
      refine L_y (y_add rfl rfl (i64w (by omega))) rfl ?_
      refine L_y (y_assign rfl) rfl ?_
      refine L_nil ?_
      have S91 := S5d.sel [0, 1] (by decide)
      have S92 := S91.rowc 1 rfl (n' := k + 1) rfl (bL_take1 hx)
      refine ⟨k + 1, _, _, by omega, ⟨by omega, S92⟩, ?_⟩
      exact (Sub.cons rfl (by first | rfl | exact congrArg (Value.int _) (by omega)) (Sub.cons rfl (by first | rfl | exact congrArg (Value.int _) (by omega)) (Sub.cons rfl rfl (Sub.nil _))))
    ·
      refine T_exit ?_
      refine hK3 _ _ ?_
      refine T_seq fun K8 hK8 => ?_
      refine T_region ?_
      refine L_y (y_move rfl) rfl ?_
      refine L_y (y_assign rfl) rfl ?_
      refine L_nil ?_
      refine hK8 _ _ ?_
      refine T_ret ?_
      repeat (first | with_reducible refine up_then ?_ | with_reducible refine up_in ?_)
      refine ret1 rfl rfl ?_
      have hke : k = 32 := by omega
      subst hke
      rw [List.take_of_length_le (by rw [z.h]; omega)] at S3
      exact ⟨_, rfl, S3.like0, _, _, rfl, S3.own 1 rfl⟩


set_option maxRecDepth 100000 in
theorem rclosed (B : Option Addr) (m d : Nat) (b : List UInt8) (w0 : World) (hb : Rs w0 1 B m d (bL b)) (hl : m ≤ 90000) :
    Calls Try.prog 70 #[.slice B m d] w0 fun e w' => ∃ u, e = .returned u ∧ Like w0 w' ∧ ∃ A' c', u = .slice A' (b ++ Sha.ofL b).length c' ∧ w'.ownsRow w0.heap.size 5 1 (.slice A' (b ++ Sha.ofL b).length c') (b ++ Sha.ofL b).length (bL (b ++ Sha.ofL b)) := by
  refine enter1 (env := [(0, .slice B m d)]) [.slice B m d] Try.func70 rfl Try.ntmps70 rfl rfl ?_
  have hm := hb.lenb; have hcap := hb.cap; have hmax := hb.max
  have S0 := St.start w0 noM
  refine T_seq fun K1 hK1 => ?_
  refine T_region ?_
  refine L_y (y_assign rfl) rfl ?_
  refine L_nil ?_
  refine hK1 _ _ ?_
  refine T_seq fun K2 hK2 => ?_
  refine T_region ?_
  refine L_y (y_move rfl) rfl ?_
  refine L_o (o_call Try.func79 rfl rfl (Sha.refof b B m d w0 (S0.rd hb) (by omega)) rfl rfl ?_)
  rintro e1 w1 ⟨v1, rfl, l1, rfl⟩
  refine ⟨_, rfl, ?_⟩
  have S1 := S0.like l1
  refine L_o (o_alloc zz23 S1 rfl fun b2 w2 hb2 S2 => ?_)
  refine L_o (o_stW S2 0 rfl rfl rfl (by rw [size_bA, Sha.length_ofL]; exact sz23) (by rw [size_bA, Sha.length_ofL]; rfl) (bL_one _) fun w3 S3 => ?_)
  refine L_nil ?_
  refine hK2 _ _ ?_
  refine T_seq fun K3 hK3 => ?_
  refine T_region ?_
  have S4 := S3.nilrow 5 1
  refine L_y (y_assign rfl) rfl ?_
  refine L_nil ?_
  refine hK3 _ _ ?_
  refine T_seq fun K4 hK4 => ?_
  refine T_seq fun K5 hK5 => ?_
  refine T_region ?_
  refine L_y (y_assign rfl) rfl ?_
  refine L_nil ?_
  refine hK5 _ _ ?_
  refine T_block ?_
  refine T_loop3 [(0, _), (3, _)] (fun (k : Nat) (A1 : Option Addr) (c1 : Nat) => [(5, .int .i64 (k : Int)), (4, .slice A1 k c1)]) (fun (k : Nat) (A1 : Option Addr) (c1 : Nat) => 32 - k) (fun (k : Nat) (A1 : Option Addr) (c1 : Nat) (w : World) => k ≤ 32 ∧ Zx.St w0 noM [blk b2 23 (bA (Sha.ofL b)), Zx.row 5 1 A1 k c1 (bL (((Sha.ofL b)).take k))] w) 0 none 0 (Sub.cons rfl (by first | rfl | exact congrArg (Value.int _) (by omega)) (Sub.cons rfl (by first | rfl | exact congrArg (Value.int _) (by omega)) (Sub.nil _))) (Sub.cons rfl rfl (Sub.cons rfl rfl (Sub.nil _))) ?_ ?_
  ·
    have S70 : Zx.St w0 noM [blk b2 23 (bA (Sha.ofL b)), Zx.row 5 1 none 0 0 (bL (((Sha.ofL b)).take 0))] w3 := S4
    exact ⟨by omega, S70⟩
  ·
    intro k A1 c1 w5 hrel
    obtain ⟨hk, S5⟩ := hrel
    refine T_seq fun K6 hK6 => ?_
    refine T_seq fun K7 hK7 => ?_
    refine T_region ?_
    refine L_y (y_move rfl) rfl ?_
    refine L_y (y_lss rfl rfl) rfl ?_
    refine L_nil ?_
    refine hK7 _ _ ?_
    refine T_cond rfl (fun h9 => ?_) (fun h9 => ?_)
    ·
      have hz := Sha.length_ofL b
      obtain ⟨x, hx⟩ : ∃ x, (Sha.ofL b)[k]? = some x := ⟨_, List.getElem?_eq_getElem (by omega)⟩
      refine T_skip ?_
      refine hK6 _ _ ?_
      refine T_seq fun K8 hK8 => ?_
      refine T_block ?_
      refine T_region ?_
      refine L_y (y_move rfl) rfl ?_
      refine L_y (y_move rfl) rfl ?_
      refine L_y (y_idxA0 Try.underlying23 sz5 rfl rfl inferInstance (by omega)) rfl ?_
      refine L_y (y_ldc Try.underlying5 rfl rfl (((S5.blk 0 rfl).cell _).trans (cell_l hx))) rfl ?_
      refine L_o (o_bsl [_] te27 zz5 S5 rfl rfl rfl rfl rfl rfl rfl rfl fun b6 w6 S6 => ?_)
      refine L_o (o_app te27 S6 1 rfl rfl rfl (by first | exact S6.row 1 rfl | exact S6.row 2 rfl) (by first | exact bL_one _ | exact iL_one _ | (intro u hu; simp at hu; subst hu; rfl) | (simp; done) | (simp [Value.oneCell']; done)) rfl (by omega) (by omega) fun A7 c7 w7 S7 => ?_)
      have S7d := S7.drop (rs' := [_, _]) (.cons_cons _ (.cons_cons _ (.cons _ (.refl _))))
      refine L_y (y_assign rfl) rfl ?_
      refine L_nil ?_
      refine hK8 _ _ ?_
      refine T_region ?_
      refine L_y (y_move rfl) rfl ?_
      refine L_y (y_add rfl rfl (i64w (by omega))) rfl ?_
      refine L_y (y_assign rfl) rfl ?_
      refine L_nil ?_
      have S91 := S7d.sel [0, 1] (by decide)
      have S92 := S91.rowc 1 rfl (n' := k + 1) rfl (bL_take1 hx)
      refine ⟨k + 1, _, _, by omega, ⟨by omega, S92⟩, ?_⟩
      exact (Sub.cons rfl (by first | rfl | exact congrArg (Value.int _) (by omega)) (Sub.cons rfl (by first | rfl | exact congrArg (Value.int _) (by omega)) (Sub.cons rfl rfl (Sub.cons rfl rfl (Sub.nil _)))))
    ·
      have hke : k = 32 := by omega
      subst hke
      rw [List.take_of_length_le (by rw [Sha.length_ofL]; omega)] at S5
      refine T_exit ?_
      refine hK4 _ _ ?_
      refine T_seq fun K9 hK9 => ?_
      refine T_region ?_
      refine L_y (y_move rfl) rfl ?_
      refine L_y (y_move rfl) rfl ?_
      refine L_o (o_bsl [_, _] te177 zz27 S5 rfl rfl rfl rfl rfl rfl rfl rfl fun b8 w8 S8 => ?_)
      refine L_o (o_call Try.func67 rfl rfl (rjoin _ _ _ [⟨B, m, d, b⟩, ⟨A1, 32, c1, Sha.ofL b⟩] w8 (S8.row 2 rfl) (okP.cons (S8.rd hb) (show m ≤ 100000 by omega) (okP.cons (S8.row 1 rfl) (show 32 ≤ 100000 by omega) (okP.nil _ _))) (by simp)) rfl rfl ?_)
      rintro e9 w9 ⟨v9, rfl, l9, A9, c9, rfl, O9⟩
      refine ⟨_, rfl, ?_⟩
      have S9 := S8.adopt l9 O9
      refine L_y (y_assign rfl) rfl ?_
      refine L_nil ?_
      refine hK9 _ _ ?_
      refine T_ret ?_
      repeat (first | with_reducible refine up_then ?_ | with_reducible refine up_in ?_)
      refine ret1 rfl rfl ?_
      have e9 : catP [⟨B, m, d, b⟩, ⟨A1, 32, c1, Sha.ofL b⟩] = b ++ Sha.ofL b := by simp [catP]
      rw [e9] at S9
      rw [e9]
      exact ⟨_, rfl, S9.like0, _, _, rfl, S9.own 3 rfl⟩
end Go.Proofs.Ytgaklngnfecdaaa.Idx
