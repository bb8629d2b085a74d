/-
  The sum of parts, by the code.
-/
import Derived.Test.YtanelemeljbbcaaM
import Derived.Test.YtanelemeljbbcaaZg
namespace Go.Proofs.Ytanelemeljbbcaa
open Go.RowKit Zk Zx
set_option linter.unusedVariables false
set_option linter.unusedSimpArgs false

theorem p0_ok (w : World) : p0.ok w := Rs.nil w 1
theorem part_getD {w : World} {ps : List Part} (h : ∀ p ∈ ps, p.ok w) (k : Nat) : (ps.getD k p0).ok w := by
  rw [List.getD_eq_getElem?_getD]
  rcases Nat.lt_or_ge k ps.length with hk | hk
  · rw [List.getElem?_eq_getElem hk]
    exact h _ (List.getElem_mem hk)
  · rw [List.getElem?_eq_none hk]
    exact p0_ok w
def cat (ps : List Part) : List UInt8 := ps.flatMap (·.l)
theorem cat_next (ps : List Part) (k : Nat) (h : k < ps.length) : cat (ps.take (k + 1)) = cat (ps.take k) ++ (ps.getD k p0).l := by
  unfold cat
  rw [List.take_succ_eq_append_getElem h, List.flatMap_append]
  congr 1
  simp [List.getD_eq_getElem?_getD, List.getElem?_eq_getElem h]
theorem cat_le (ps : List Part) (k : Nat) : (cat (ps.take k)).length ≤ (cat ps).length := by
  have : cat ps = cat (ps.take k) ++ cat (ps.drop k) := by
    unfold cat
    rw [← List.flatMap_append, List.take_append_drop]
  rw [this, List.length_append]
  omega


theorem bA_one (l : List UInt8) : ∀ u ∈ (bA l).toList, u.oneCell' = true := bL_one l
theorem length_ofL (l : List UInt8) : (ofL l).length = 32 := length_digL _
set_option maxRecDepth 100000 in
set_option maxHeartbeats 1000000 in
theorem shaof (ps : List Part) (A : Option Addr) (n c : Nat) (w0 : World) (hps : Rs w0 1 A n c (ps.map pv)) (hok : ∀ p ∈ ps, p.ok w0) (hlen : (cat ps).length ≤ 100000) (hpl : ps.length ≤ 9223372036854775807) :
    Calls Try.prog 12 #[.slice A n c] w0 fun e w' => ∃ u, e = .returned u ∧ Like w0 w' ∧ u = .agg (bA (ofL (cat ps))) := by
  have hn : ps.length = n := by have := hps.len; simpa using this
  refine enter1 (env := [(0, .slice A n c)]) [.slice A n c] Try.func12 rfl Try.ntmps12 rfl rfl ?_
  have S0 := St.start w0 noM
  refine T_seq fun K1 hK1 => ?_
  refine T_region ?_
  refine L_o (o_alloc zz30 S0 rfl fun b1 w1 hb1 S1 => ?_)
  refine L_nil ?_
  refine hK1 _ _ ?_
  refine T_seq fun K2 hK2 => ?_
  refine T_region ?_
  refine L_o (o_call Try.func17 rfl rfl (new _) rfl rfl ?_)
  rintro e2 w2 ⟨v2, rfl, l2, b2, rfl, hb2, hB2⟩
  refine ⟨_, rfl, ?_⟩
  have S2 := S1.adoptB l2 hB2 hb2
  refine L_y (y_assign rfl) rfl ?_
  refine L_nil ?_
  refine hK2 _ _ ?_
  refine T_seq fun K3 hK3 => ?_
  refine T_seq fun K4 hK4 => ?_
  refine T_region ?_
  refine L_y (y_move rfl) rfl ?_
  refine L_y (y_len Try.underlying28 rfl) rfl ?_
  refine L_y (y_move rfl) rfl ?_
  refine L_nil ?_
  refine hK4 _ _ ?_
  refine T_block ?_
  refine T_loop2 [(2, _), (3, _), (7, _), (8, _)] (fun (k : Nat) (cs : Array Value) => [(9, .int .i64 (k : Int))]) (fun (k : Nat) (cs : Array Value) => ps.length - k) (fun (k : Nat) (cs : Array Value) (w : World) => k ≤ ps.length ∧ HS (cat (ps.take k)) cs ∧ Zx.St w0 noM [blk b1 30 (bA z32), blk b2 53 cs] w) 0 (hashA 0 start0 (List.replicate 64 0)) (Sub.cons rfl (by first | rfl | exact congrArg (Value.int _) (by omega)) (Sub.nil _)) (Sub.cons rfl rfl (Sub.cons rfl rfl (Sub.cons rfl rfl (Sub.cons rfl rfl (Sub.nil _))))) ?_ ?_
  ·
    exact ⟨by omega, HS_nil, S2⟩
  ·
    intro k cs w3 hrel
    obtain ⟨hk, hs, S3⟩ := hrel
    refine T_seq fun K5 hK5 => ?_
    refine T_region ?_
    refine L_y (y_lss rfl rfl) rfl ?_
    refine L_nil ?_
    refine hK5 _ _ ?_
    refine T_seq fun K6 hK6 => ?_
    refine T_cond rfl (fun h10 => ?_) (fun h10 => ?_)
    ·
      refine T_skip ?_
      refine hK6 _ _ ?_
      refine T_seq fun K7 hK7 => ?_
      refine T_block ?_
      refine T_seq fun K8 hK8 => ?_
      refine T_region ?_
      refine L_y (y_idx Try.underlying28 sz23 rfl rfl (by first | exact S3.rd hps) inferInstance (by omega)) rfl ?_
      refine L_y (y_ldg p0 Try.underlying23 rfl rfl (by first | exact S3.rd hps) (by omega)) rfl ?_
      refine L_y (y_assign rfl) rfl ?_
      refine L_nil ?_
      refine hK8 _ _ ?_
      refine T_region ?_
      refine L_y (y_move rfl) rfl ?_
      refine L_y (y_move rfl) rfl ?_
      have hz1 := S1.size
      have hq := part_getD hok k
      have hlt : k < ps.length := by omega
      have hcn := cat_next ps k hlt
      have hcl := cat_le ps (k + 1)
      have hql := hq.lenb
      have hcx : (cat (ps.take k)).length + (ps.getD k p0).n ≤ 1000000 := by rw [hcn, List.length_append, hql] at hcl; omega
      refine L_o (o_call Try.func18 rfl rfl (write _ _ (ps.getD k p0).l _ _ _ _ _ (S3.blk 1 rfl) hs (S3.rd hq) (fun ad h0 had => by obtain ⟨ad', had', hlt', _⟩ := hq.rd.2 h0; rw [had] at had'; cases had'; omega) hcx) rfl rfl ?_)
      rintro e4 w4 ⟨u4, rfl, hgb, cs', hB', hs'⟩
      refine ⟨_, rfl, ?_⟩
      have S4 := S3.wrote (r' := blk _ _ _) 1 rfl (fun i => Iff.rfl) (fun i h => h) hgb hB'
      rw [← hcn] at hs'
      refine L_nil ?_
      refine hK7 _ _ ?_
      refine T_region ?_
      refine L_y (y_add rfl rfl (i64w (by omega))) rfl ?_
      refine L_y (y_move rfl) rfl ?_
      refine L_nil ?_
      refine ⟨k + 1, _, by omega, ⟨by omega, hs', S4⟩, ?_⟩
      exact (Sub.cons rfl (by first | rfl | exact congrArg (Value.int _) (by omega)) (Sub.cons rfl rfl (Sub.cons rfl rfl (Sub.cons rfl rfl (Sub.cons rfl rfl (Sub.nil _))))))
    ·
      have hke : ps.take k = ps := List.take_of_length_le (by omega)
      rw [hke] at hs
      refine T_exit ?_
      refine hK3 _ _ ?_
      refine T_seq fun K9 hK9 => ?_
      refine T_region ?_
      refine L_y (y_move rfl) rfl ?_
      refine L_o (o_call Try.func19 rfl rfl (sum _ (cat ps) cs _ (S3.blk 1 rfl) hs (by omega)) rfl rfl ?_)
      rintro e5 w5 ⟨v5, rfl, l5, rfl⟩
      refine ⟨_, rfl, ?_⟩
      have S5 := S3.like l5
      refine L_o (o_stW S5 0 rfl rfl rfl (by rw [size_bA, length_ofL]; exact sz30) (by rw [size_bA, length_ofL]; simp [Value.cells, bA, z32]) (bA_one _) fun w6 S6 => ?_)
      refine L_nil ?_
      refine hK9 _ _ ?_
      refine T_ret ?_
      repeat (first | with_reducible refine up_then ?_ | with_reducible refine up_in ?_)
      refine retc rfl rfl (S6.blk 0 rfl) Try.underlying30 rfl (by rw [size_bA, length_ofL]; exact sz30) ?_
      exact ⟨_, rfl, S6.like0, rfl⟩
end Go.Proofs.Ytanelemeljbbcaa
