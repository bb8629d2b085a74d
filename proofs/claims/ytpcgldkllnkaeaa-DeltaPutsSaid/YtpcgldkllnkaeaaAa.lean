/-
  Join.
-/
import Derived.Test.YtpcgldkllnkaeaaZ
namespace Go.Proofs.Ytpcgldkllnkaeaa
open Go.RowKit Zk Zx
set_option linter.unusedVariables false
set_option linter.unusedSimpArgs false

def catP (ps : List Part) : List UInt8 := ps.flatMap Part.l
theorem catP_step {ps : List Part} {k : Nat} {p : Part} (hp : ps[k]? = some p) : catP (ps.take (k + 1)) = catP (ps.take k) ++ p.l := by
  unfold catP
  rw [take1 hp, List.flatMap_append]
  simp
def okP (w : World) (B : Nat) (ps : List Part) : Prop := ∀ p ∈ ps, p.ok w ∧ p.n ≤ B
theorem okP.nil (w : World) (B : Nat) : okP w B [] := fun p hp => by cases hp
theorem okP.cons {w : World} {B : Nat} {p : Part} {ps : List Part} (h1 : p.ok w) (h2 : p.n ≤ B) (h : okP w B ps) : okP w B (p :: ps) := fun q hq => by
  rcases List.mem_cons.1 hq with rfl | hq
  · exact ⟨h1, h2⟩
  · exact h q hq
theorem okP.like {w w' : World} {B : Nat} {ps : List Part} (h : okP w B ps) (lk : Like w w') : okP w' B ps := fun p hp => ⟨Rs.like (h p hp).1 lk, (h p hp).2⟩
theorem getP {ps : List Part} {k : Nat} {p : Part} (hp : ps[k]? = some p) : (ps.map pv)[k]? = some (.slice p.A p.n p.c) := by rw [List.getElem?_map, hp]; rfl


set_option maxRecDepth 100000 in
theorem rjoin (A : Option Addr) (n c : Nat) (ps : List Part) (w0 : World) (hps : Rs w0 1 A n c (ps.map pv)) (hok : okP w0 100000 ps) (hn8 : n ≤ 1000) :
    Calls Try.prog 34 #[.slice A n c] w0 fun e w' => ∃ u, e = .returned u ∧ Like w0 w' ∧ ∃ A' c', u = .slice A' (catP ps).length c' ∧ w'.ownsRow w0.heap.size 5 1 (.slice A' (catP ps).length c') (catP ps).length (bL (catP ps)) := by
  refine enter1 (env := [(0, .slice A n c)]) [.slice A n c] Try.func34 rfl Try.ntmps34 rfl rfl ?_
  have hn := hps.len; rw [List.length_map] at hn; have hcap := hps.cap; have hmax := hps.max; have S0 := St.start w0 noM
  refine T_seq fun K1 hK1 => ?_
  refine T_region ?_
  refine L_y (y_assign rfl) rfl ?_
  refine L_nil ?_
  refine hK1 _ _ ?_
  refine T_seq fun K2 hK2 => ?_
  refine T_region ?_
  have S1 := S0.nilrow 5 1
  refine L_y (y_assign rfl) rfl ?_
  refine L_nil ?_
  refine hK2 _ _ ?_
  refine T_seq fun K3 hK3 => ?_
  refine T_seq fun K4 hK4 => ?_
  refine T_region ?_
  refine L_y (y_assign rfl) rfl ?_
  refine L_nil ?_
  refine hK4 _ _ ?_
  refine T_block ?_
  refine T_loop4 [(0, _)] (fun (k : Nat) (m : List UInt8) (A1 : Option Addr) (c1 : Nat) => [(4, .int .i64 (k : Int)), (3, .slice A1 m.length c1)]) (fun (k : Nat) (m : List UInt8) (A1 : Option Addr) (c1 : Nat) => n - k) (fun (k : Nat) (m : List UInt8) (A1 : Option Addr) (c1 : Nat) (w : World) => (k ≤ n ∧ m = catP (ps.take k) ∧ m.length ≤ 100000 * k) ∧ St w0 noM [row 5 1 A1 m.length c1 (bL m)] w) 0 [] none 0 (Sub.cons rfl (by first | rfl | exact congrArg (Value.int _) (by omega)) (Sub.cons rfl (by first | rfl | exact congrArg (Value.int _) (by omega)) (Sub.nil _))) (Sub.cons rfl rfl (Sub.nil _)) ?_ ?_
  ·
    exact ⟨⟨Nat.zero_le _, rfl, Nat.zero_le _⟩, S1⟩
  ·
    intro k m A1 c1 w2 hrel
    obtain ⟨⟨hk, hm, hml⟩, S2⟩ := hrel
    refine T_seq fun K5 hK5 => ?_
    refine T_seq fun K6 hK6 => ?_
    refine T_region ?_
    refine L_y (y_move rfl) rfl ?_
    refine L_y (y_move rfl) rfl ?_
    refine L_y (y_len Try.underlying96 rfl) rfl ?_
    refine L_y (y_lss rfl rfl) rfl ?_
    refine L_nil ?_
    refine hK6 _ _ ?_
    refine T_cond rfl (fun h8 => ?_) (fun h8 => ?_)
    ·
      obtain ⟨p, hp⟩ : ∃ p, ps[k]? = some p := ⟨_, List.getElem?_eq_getElem (by omega)⟩
      obtain ⟨hpo, hpb⟩ := hok p (List.mem_of_getElem? hp)
      have hpn := hpo.lenb; have hpc := hpo.cap; have hpm := hpo.max
      refine T_skip ?_
      refine hK5 _ _ ?_
      refine T_seq fun K7 hK7 => ?_
      refine T_block ?_
      refine T_region ?_
      refine L_y (y_move rfl) rfl ?_
      refine L_y (y_move rfl) rfl ?_
      refine L_y (y_move rfl) rfl ?_
      refine L_y (y_idx Try.underlying96 sz22 rfl rfl (S2.rd hps) (Nt.mk (by omega) : Nt _ (k)) (by omega)) rfl ?_
      refine L_y (y_ldr Try.underlying22 rfl rfl (S2.rd hps) (getP hp)) rfl ?_
      refine L_o (o_app te22 S2 0 rfl rfl rfl (S2.rd hpo) (bL_one _) rfl (by omega) (by omega) fun A3 c3 w3 S3 => ?_)
      refine L_y (y_assign rfl) rfl ?_
      refine L_nil ?_
      refine hK7 _ _ ?_
      refine T_region ?_
      refine L_y (y_move rfl) rfl ?_
      refine L_y (y_add rfl rfl (i64w (by omega))) rfl ?_
      refine L_y (y_assign rfl) rfl ?_
      refine L_nil ?_
      have S91 := S3.rowc 0 rfl (n' := (m ++ p.l).length) (xs' := bL (m ++ p.l)) (by rw [List.length_append]; omega) (bL_app' _ _)
      refine ⟨k + 1, m ++ p.l, _, _, by omega, ⟨⟨by omega, by rw [catP_step hp, hm], by rw [List.length_append]; omega⟩, S91⟩, ?_⟩
      exact (Sub.cons rfl (by first | rfl | exact congrArg (Value.int _) (by omega)) (Sub.cons rfl (by rw [List.length_append]; congr 1; omega) (Sub.cons rfl rfl (Sub.nil _))))
    ·
      refine T_exit ?_
      refine hK3 _ _ ?_
      refine T_seq fun K8 hK8 => ?_
      refine T_region ?_
      refine L_y (y_move rfl) rfl ?_
      refine L_y (y_assign rfl) rfl ?_
      refine L_nil ?_
      refine hK8 _ _ ?_
      refine T_ret ?_
      repeat (first | with_reducible refine up_then ?_ | with_reducible refine up_in ?_)
      refine ret1 rfl rfl ?_
      have hke : k = n := by omega
      subst hke
      rw [List.take_of_length_le (by omega)] at hm
      subst hm
      exact ⟨_, rfl, S2.like0, _, _, rfl, S2.own 0 rfl⟩
end Go.Proofs.Ytpcgldkllnkaeaa
