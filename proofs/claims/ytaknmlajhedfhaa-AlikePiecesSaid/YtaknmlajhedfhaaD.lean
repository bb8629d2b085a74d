/-
  The program: common, score.
-/
import Derived.Test.YtaknmlajhedfhaaC
import Derived.Test.YtaknmlajhedfhaaB
namespace Go.Proofs.Ytaknmlajhedfhaa
open Go.RowKit Zk Zx
set_option linter.unusedVariables false
set_option linter.unusedSimpArgs false

theorem minmul (a b z : Nat) (h : min a b * z ≤ 9223372036854775807) : IntKind.i64.wrap (min (a : Int) (b : Int) * (z : Int)) = ((min a b * z : Nat) : Int) := by
  have e : min (a : Int) (b : Int) = ((min a b : Nat) : Int) := by omega
  rw [e, ← Int.natCast_mul]
  exact i64w (by omega)


set_option maxRecDepth 100000 in
theorem common (ba ka bb kb : Nat) (DA DB : DU) (LA LB : List (List UInt8)) (w0 : World) (ha : (mapR Try.prog 9 3 ba ka DA).holds w0) (hca : CM DA LA) (hb : (mapR Try.prog 9 3 bb kb DB).holds w0) (hcb : CM DB LB) (hne : ba ≠ bb) (hT : (LA.map List.length).sum ≤ 4398046511104) :
    Calls Try.prog 19 #[.map (some ba), .map (some bb)] w0 fun e w' => ∃ u, e = .returned u ∧ Turned w0 w' (mapR Try.prog 9 3 ba ka DA) (mapR Try.prog 9 3 ba ka DA) ∧ u = .int .i64 (comT LA LB : Int) := by
  refine enter1 (env := [(0, .map (some ba)), (1, .map (some bb))]) [.map (some ba), .map (some bb)] Try.func19 rfl Try.ntmps19 rfl rfl ?_
  obtain ⟨es, hDe, hnd, hks, hkn, hkm⟩ := hca.keys; have S0 := St.borrow1 (mapR Try.prog 9 3 ba ka DA) ha (mapR_lt ha)
  refine T_seq fun K1 hK1 => ?_
  refine T_region ?_
  refine L_y (y_assign rfl) rfl ?_
  refine L_nil ?_
  refine hK1 _ _ ?_
  refine T_seq fun K2 hK2 => ?_
  refine T_region ?_
  refine L_y (y_assign rfl) rfl ?_
  refine L_nil ?_
  refine hK2 _ _ ?_
  refine T_seq fun K3 hK3 => ?_
  refine T_seq fun K4 hK4 => ?_
  refine T_region ?_
  refine L_y (y_move rfl) rfl ?_
  refine L_o (o_range S0 0 rfl (Maps.string_keyed Try.underlying9) Try.underlying48 rfl rfl fun r1 w1 S1 => ?_)
  refine L_nil ?_
  refine hK4 _ _ ?_
  refine T_block ?_
  refine T_loop2 [(1, _), (9, _)] (fun (left : Lit → Bool) (cnt : Nat) => [(5, .int .i64 (comL LA LB es left : Int))]) (fun (left : Lit → Bool) (cnt : Nat) => cnt) (fun (left : Lit → Bool) (cnt : Nat) (w : World) => St w0 (mapR Try.prog 9 3 ba ka DA).dom [rngR Try.prog 9 3 ba r1 ka DA left cnt] w ∧ True) (Maps.has DA) (Maps.size DA) (Sub.cons rfl (by first | rfl | exact congrArg (Value.int _) (by rw [hDe, comL_start LA LB es hks]; rfl)) (Sub.nil _)) (Sub.cons rfl rfl (Sub.cons rfl rfl (Sub.nil _))) ?_ ?_
  ·
    exact ⟨S1, trivial⟩
  ·
    intro left cnt w2 hrel
    obtain ⟨S2, _⟩ := hrel
    refine T_seq fun K5 hK5 => ?_
    refine T_region ?_
    refine L_o (o_next S2 0 rfl (Maps.string_keyed Try.underlying9) Try.underlying9 Try.underlying3 rfl rfl (fun hl => ?_) (fun s3 k3 cnt3 w3 hl hat hs hlt S3 hen => ?_))
    ·
      refine L_y (y_extract rfl rfl) rfl ?_
      refine L_nil ?_
      refine hK5 _ _ ?_
      refine T_seq fun K6 hK6 => ?_
      refine T_false rfl ?_
      refine T_exit ?_
      refine hK3 _ _ ?_
      refine T_seq fun K7 hK7 => ?_
      refine T_region ?_
      refine L_y (y_move rfl) rfl ?_
      refine L_y (y_assign rfl) rfl ?_
      refine L_nil ?_
      refine hK7 _ _ ?_
      refine T_ret ?_
      repeat (first | with_reducible refine up_then ?_ | with_reducible refine up_in ?_)
      refine ret1 rfl rfl ?_
      exact ⟨_, rfl, (S2.maps 0 rfl).turned1 0 rfl, by rw [comL_end LA LB es left hks hl, comT_of hkn hkm]⟩
    ·
      have hhas := Maps.has_true_of_atKey hat
      rw [hDe, Maps.has_eq] at hhas
      obtain ⟨p, hp, hpk⟩ := List.any_eq_true.1 hhas
      have hst := com_step LA LB (.string s3.data.toList) left hl trivial es hnd ⟨p, hp, WideAt.sameKey_eq hpk⟩
      have hkc : k3 = (LA.count s3.data.toList : Int) := by have h1 := hat (.lit (.int .i64 0)); rw [hca.at_] at h1; simpa using h1.symm
      have hle := comL_le LA LB es (fun z => left z && !z.sameKey (.string s3.data.toList)) hks hkn
      rw [hst] at hle
      have hsz : s3.data.toList.length = s3.size := by simp
      have hG : comG LA LB (.string s3.data.toList) = min (LA.count s3.data.toList) (LB.count s3.data.toList) * s3.size := by rw [← hsz]; rfl
      subst hkc
      refine L_y (y_extract rfl rfl) rfl ?_
      refine L_nil ?_
      refine hK5 _ _ ?_
      refine T_seq fun K8 hK8 => ?_
      refine T_true rfl ?_
      refine T_skip ?_
      refine hK8 _ _ ?_
      refine T_block ?_
      refine T_seq fun K9 hK9 => ?_
      refine T_region ?_
      refine L_o (o_entry rfl hen rfl ?_)
      refine L_y (y_extract rfl rfl) rfl ?_
      refine L_y (y_extract rfl rfl) rfl ?_
      refine L_y (y_assign rfl) rfl ?_
      refine L_y (y_assign rfl) rfl ?_
      refine L_nil ?_
      refine hK9 _ _ ?_
      refine T_region ?_
      refine L_y (y_move rfl) rfl ?_
      refine L_y (y_move rfl) rfl ?_
      refine L_y (y_move rfl) rfl ?_
      refine L_y (y_move rfl) rfl ?_
      refine L_y (y_look (S3.keepM hb (mapR_lt hb) (fun i hi he => hne (he.symm.trans hi))) (Maps.string_keyed Try.underlying9) Try.underlying48 Try.underlying3 zz3 rfl rfl (Go.WideMaps.keyOf_string_mk Try.underlying9 hs) (hcb.at_ _)) rfl ?_
      refine L_y (y_min rfl rfl) rfl ?_
      refine L_y (y_move rfl) rfl ?_
      refine L_y (y_lens Try.underlying9 rfl) rfl ?_
      refine L_y (y_mul rfl rfl (minmul _ _ s3.size (by omega))) rfl ?_
      refine L_y (y_add rfl rfl (i64w (by omega))) rfl ?_
      refine L_y (y_assign rfl) rfl ?_
      refine L_nil ?_
      refine ⟨_, cnt3, hlt, ⟨S3, trivial⟩, ?_⟩
      exact (Sub.cons rfl (congrArg (Value.int _) (by rw [hst, hG]; omega)) (Sub.cons rfl rfl (Sub.cons rfl rfl (Sub.nil _))))
end Go.Proofs.Ytaknmlajhedfhaa
