/-
  The document: Cut.
-/
import Derived.Test.YtaknmlajhedfhaaE
namespace Go.Proofs.Ytaknmlajhedfhaa
open Go.RowKit Zk Zx
set_option linter.unusedVariables false
set_option linter.unusedSimpArgs false

theorem str_app (l m : List UInt8) : (⟨l.toArray⟩ : ByteArray) ++ ⟨m.toArray⟩ = ⟨(l ++ m).toArray⟩ := by
  symm
  apply ByteArray.ext
  simp
def sV (t : List UInt8) : Value := .string ⟨t.toArray⟩
theorem win_one {l : List UInt8} {k : Nat} {c : UInt8} (h : l[k]? = some c) : (l.drop k).take (k + 1 - k) = [c] := by
  rw [drop_at h, show k + 1 - k = 1 by omega]
  rfl
theorem cutF_new (now : List UInt8) (c : UInt8) (r : List UInt8) (h : c = 10 ∨ (now ++ [c]).length = 64) : cutF now (c :: r) = (now ++ [c]) :: cutF [] r := by rw [cutF, if_pos (by simpa using h)]
theorem cutF_go (now : List UInt8) (c : UInt8) (r : List UInt8) (h : ¬ (c = 10 ∨ (now ++ [c]).length = 64)) : cutF now (c :: r) = cutF (now ++ [c]) r := by rw [cutF, if_neg (by simpa using h)]
theorem cutF_len : ∀ (l now : List UInt8), (cutF now l).length ≤ now.length + l.length
  | [], now => by
    unfold cutF
    split
    · simp
    · rename_i h
      have : 0 < now.length := List.length_pos_iff.2 h
      simp
      omega
  | c :: r, now => by
    unfold cutF
    split
    · have := cutF_len r []
      simp at this ⊢
      omega
    · have := cutF_len r (now ++ [c])
      simp at this ⊢
      omega


set_option maxRecDepth 100000 in
theorem rcut (A : Option Addr) (n cc : Nat) (l : List UInt8) (w0 : World) (hb : Rs w0 1 A n cc (bL l)) (hn : n ≤ 4398046511104) :
    Calls Try.prog 24 #[.slice A n cc] w0 fun e w' => ∃ u, e = .returned u ∧ Like w0 w' ∧ ∃ A m c, u = .slice A m c ∧ w'.ownsRow w0.heap.size 9 1 (.slice A m c) m ((cuts l).map sV) := by
  refine enter1 (env := [(0, .slice A n cc)]) [.slice A n cc] Try.func24 rfl Try.ntmps24 rfl rfl ?_
  have hln := hb.lenb; have hcap := hb.cap; have hmx := hb.max; have S0 := St.start w0 noM
  refine T_seq fun K1 hK1 => ?_
  refine T_region ?_
  refine L_y (y_assign rfl) rfl ?_
  refine L_nil ?_
  refine hK1 _ _ ?_
  refine T_seq fun K2 hK2 => ?_
  refine T_region ?_
  have S1 := S0.nilrow 9 1
  refine L_y (y_assign rfl) rfl ?_
  refine L_nil ?_
  refine hK2 _ _ ?_
  refine T_seq fun K3 hK3 => ?_
  refine T_region ?_
  refine L_y (y_assign rfl) rfl ?_
  refine L_nil ?_
  refine hK3 _ _ ?_
  refine T_seq fun K4 hK4 => ?_
  refine T_seq fun K5 hK5 => ?_
  refine T_region ?_
  refine L_y (y_assign rfl) rfl ?_
  refine L_nil ?_
  refine hK5 _ _ ?_
  refine T_block ?_
  refine T_loop5 [(0, _)] (fun (k : Nat) (now : List UInt8) (A0 : Option Addr) (c0 : Nat) (done : List (List UInt8)) => [(5, .int .i64 (k : Int)), (4, .string ⟨now.toArray⟩), (3, .slice (A0) done.length c0)]) (fun (k : Nat) (now : List UInt8) (A0 : Option Addr) (c0 : Nat) (done : List (List UInt8)) => n - k) (fun (k : Nat) (now : List UInt8) (A0 : Option Addr) (c0 : Nat) (done : List (List UInt8)) (w : World) => ((k ≤ n ∧ now.length < 64 ∧ done.length ≤ k) ∧ cuts l = done ++ cutF now (l.drop k)) ∧ St w0 noM [row 9 1 A0 done.length c0 (done.map sV)] w) 0 [] none 0 [] (Sub.cons rfl (by first | rfl | exact congrArg (Value.int _) (by omega)) (Sub.cons rfl (by first | rfl | exact congrArg (Value.int _) (by omega)) (Sub.cons rfl (by first | rfl | exact congrArg (Value.int _) (by omega)) (Sub.nil _)))) (Sub.cons rfl rfl (Sub.nil _)) ?_ ?_
  ·
    exact ⟨⟨⟨by omega, by simp, by simp⟩, by simp [cuts]⟩, S1⟩
  ·
    intro k now A0 c0 done w2 hrel
    obtain ⟨⟨⟨hk, h64, hdk⟩, hcut⟩, S2⟩ := hrel
    refine T_seq fun K6 hK6 => ?_
    refine T_seq fun K7 hK7 => ?_
    refine T_region ?_
    refine L_y (y_move rfl) rfl ?_
    refine L_y (y_move rfl) rfl ?_
    refine L_y (y_len Try.underlying22 rfl) rfl ?_
    refine L_y (y_lss rfl rfl) rfl ?_
    refine L_nil ?_
    refine hK7 _ _ ?_
    refine T_cond rfl (fun h9 => ?_) (fun h9 => ?_)
    ·
      obtain ⟨c, hc⟩ : ∃ c, l[k]? = some c := ⟨_, List.getElem?_eq_getElem (by omega)⟩
      have hdr := drop_at hc
      have hone := win_one hc
      have hten := u8_ten (c := c)
      have hbz := bsz now
      have hbz2 := bsz (now ++ [c])
      have hnl : (now ++ [c]).length = now.length + 1 := by simp
      have hw1 : (⟨((l.drop k).take (k + 1 - k)).toArray⟩ : ByteArray).size = 1 := by rw [bsz, hone]; rfl
      refine T_skip ?_
      refine hK6 _ _ ?_
      refine T_seq fun K8 hK8 => ?_
      refine T_block ?_
      refine T_seq fun K9 hK9 => ?_
      refine T_region ?_
      refine L_y (y_move rfl) rfl ?_
      refine L_y (y_move rfl) rfl ?_
      refine L_y (y_move rfl) rfl ?_
      refine L_y (y_move rfl) rfl ?_
      refine L_y (y_add rfl rfl (i64w (by omega))) rfl ?_
      refine L_y (y_slice Try.underlying22 sz5 rfl rfl rfl inferInstance inferInstance (by omega) (by omega)) rfl ?_
      refine L_y (y_bstr Try.underlying22 Try.underlying5 Try.underlying9 rfl ((S2.rd hb).cutb (l := k) (u := k + 1) (by omega) (by omega))) rfl ?_
      refine L_y (y_cat rfl rfl (by omega)) rfl ?_
      rw [show (⟨now.toArray⟩ : ByteArray) ++ ⟨((l.drop k).take (k + 1 - k)).toArray⟩ = ⟨(now ++ [c]).toArray⟩ by rw [str_app, hone]]
      refine L_y (y_assign rfl) rfl ?_
      refine L_nil ?_
      refine hK9 _ _ ?_
      refine T_seq fun K10 hK10 => ?_
      refine T_region ?_
      refine L_y (y_move rfl) rfl ?_
      refine L_y (y_move rfl) rfl ?_
      refine L_y (y_idx Try.underlying22 sz5 rfl rfl (S2.rd hb) inferInstance (by omega)) rfl ?_
      refine L_y (y_ldr Try.underlying5 rfl rfl (S2.rd hb) (bL_getX hc)) rfl ?_
      refine L_y (y_eql rfl rfl) rfl ?_
      refine L_y (y_move rfl) rfl ?_
      refine L_split 25 rfl (fun h25 => ?_) (fun h25 => ?_)
      ·
        refine L_gno rfl rfl rfl ?_
        refine L_gno rfl rfl rfl ?_
        refine L_gno rfl rfl rfl ?_
        refine L_y ((by first | exact y_pickT rfl rfl | exact y_pickF rfl rfl)) rfl ?_
        refine L_nil ?_
        refine hK10 _ _ ?_
        refine T_true rfl ?_
        refine T_seq fun K11 hK11 => ?_
        refine T_region ?_
        refine L_y (y_move rfl) rfl ?_
        refine L_y (y_move rfl) rfl ?_
        refine L_o (o_bsl [_] te53 zz9 S2 rfl rfl rfl rfl rfl rfl rfl rfl fun b4 w4 S4 => ?_)
        refine L_o (o_app te53 S4 0 rfl rfl rfl (by first | exact S4.row 0 rfl | exact S4.row 1 rfl) (by first | exact bL_one _ | exact iL_one _ | (intro u hu; simp at hu; subst hu; rfl) | (simp; done) | (simp [Value.oneCell']; done)) rfl (by omega) (by omega) fun A5 c5 w5 S5 => ?_)
        have S5d := S5.drop (rs' := [_]) (.cons_cons _ (.cons _ (.refl _)))
        refine L_y (y_assign rfl) rfl ?_
        refine L_nil ?_
        refine hK11 _ _ ?_
        refine T_region ?_
        refine L_y (y_assign rfl) rfl ?_
        refine L_nil ?_
        refine hK8 _ _ ?_
        refine T_region ?_
        refine L_y (y_move rfl) rfl ?_
        refine L_y (y_add rfl rfl (i64w (by omega))) rfl ?_
        refine L_y (y_assign rfl) rfl ?_
        refine L_nil ?_
        have hce := cutF_new now c (l.drop (k + 1)) (by rw [List.length_append, List.length_singleton]; first | (left; exact hten.1 (by assumption)) | (right; omega))
        have S9 := S5d.rowc 0 rfl (n' := (done ++ [now ++ [c]]).length) (xs' := (done ++ [now ++ [c]]).map sV) (by simp) (by rw [List.map_append]; rfl)
        refine ⟨k + 1, [], _, _, done ++ [now ++ [c]], by omega, ⟨⟨⟨by omega, by simp, by simp; omega⟩, by rw [hcut, hdr, hce]; simp⟩, S9⟩, ?_⟩
        exact (Sub.cons rfl (by first | rfl | exact congrArg (Value.int _) (by omega)) (Sub.cons rfl (by first | rfl | exact congrArg (Value.int _) (by omega)) (Sub.cons rfl (by first | rfl | (rw [List.length_append]; rfl)) (Sub.cons rfl rfl (Sub.nil _)))))
      ·
        refine L_gyes rfl rfl ?_
        refine L_y (y_move rfl) rfl ?_
        refine L_gyes rfl rfl ?_
        refine L_y (y_lens Try.underlying9 rfl) rfl ?_
        refine L_gyes rfl rfl ?_
        refine L_y (y_eql rfl rfl) rfl ?_
        refine L_y ((by first | exact y_pickT rfl rfl | exact y_pickF rfl rfl)) rfl ?_
        refine L_nil ?_
        refine hK10 _ _ ?_
        refine T_cond rfl (fun h29 => ?_) (fun h29 => ?_)
        ·
          refine T_seq fun K12 hK12 => ?_
          refine T_region ?_
          refine L_y (y_move rfl) rfl ?_
          refine L_y (y_move rfl) rfl ?_
          refine L_o (o_bsl [_] te53 zz9 S2 rfl rfl rfl rfl rfl rfl rfl rfl fun b6 w6 S6 => ?_)
          refine L_o (o_app te53 S6 0 rfl rfl rfl (by first | exact S6.row 0 rfl | exact S6.row 1 rfl) (by first | exact bL_one _ | exact iL_one _ | (intro u hu; simp at hu; subst hu; rfl) | (simp; done) | (simp [Value.oneCell']; done)) rfl (by omega) (by omega) fun A7 c7 w7 S7 => ?_)
          have S7d := S7.drop (rs' := [_]) (.cons_cons _ (.cons _ (.refl _)))
          refine L_y (y_assign rfl) rfl ?_
          refine L_nil ?_
          refine hK12 _ _ ?_
          refine T_region ?_
          refine L_y (y_assign rfl) rfl ?_
          refine L_nil ?_
          refine hK8 _ _ ?_
          refine T_region ?_
          refine L_y (y_move rfl) rfl ?_
          refine L_y (y_add rfl rfl (i64w (by omega))) rfl ?_
          refine L_y (y_assign rfl) rfl ?_
          refine L_nil ?_
          have hce := cutF_new now c (l.drop (k + 1)) (by rw [List.length_append, List.length_singleton]; first | (left; exact hten.1 (by assumption)) | (right; omega))
          have S9 := S7d.rowc 0 rfl (n' := (done ++ [now ++ [c]]).length) (xs' := (done ++ [now ++ [c]]).map sV) (by simp) (by rw [List.map_append]; rfl)
          refine ⟨k + 1, [], _, _, done ++ [now ++ [c]], by omega, ⟨⟨⟨by omega, by simp, by simp; omega⟩, by rw [hcut, hdr, hce]; simp⟩, S9⟩, ?_⟩
          exact (Sub.cons rfl (by first | rfl | exact congrArg (Value.int _) (by omega)) (Sub.cons rfl (by first | rfl | exact congrArg (Value.int _) (by omega)) (Sub.cons rfl (by first | rfl | (rw [List.length_append]; rfl)) (Sub.cons rfl rfl (Sub.nil _)))))
        ·
          refine T_skip ?_
          refine hK8 _ _ ?_
          refine T_region ?_
          refine L_y (y_move rfl) rfl ?_
          refine L_y (y_add rfl rfl (i64w (by omega))) rfl ?_
          refine L_y (y_assign rfl) rfl ?_
          refine L_nil ?_
          have hco := cutF_go now c (l.drop (k + 1)) (by rw [List.length_append, List.length_singleton]; intro h; rcases h with h | h; exact absurd (hten.2 h) (by assumption); omega)
          refine ⟨k + 1, now ++ [c], A0, c0, done, by omega, ⟨⟨⟨by omega, by omega, by omega⟩, by rw [hcut, hdr, hco]⟩, S2⟩, ?_⟩
          exact (Sub.cons rfl (by first | rfl | exact congrArg (Value.int _) (by omega)) (Sub.cons rfl (by first | rfl | exact congrArg (Value.int _) (by omega)) (Sub.cons rfl (by first | rfl | (rw [List.length_append]; rfl)) (Sub.cons rfl rfl (Sub.nil _)))))
    ·
      have hkn : k = n := by omega
      have hfd : l.drop k = [] := List.drop_of_length_le (by omega)
      refine T_exit ?_
      refine hK4 _ _ ?_
      refine T_seq fun K13 hK13 => ?_
      refine T_seq fun K14 hK14 => ?_
      refine T_region ?_
      refine L_y (y_move rfl) rfl ?_
      refine L_y (y_sneq rfl rfl) rfl ?_
      refine L_nil ?_
      refine hK14 _ _ ?_
      refine T_cond rfl (fun h35 => ?_) (fun h35 => ?_)
      ·
        have hfin : cuts l = done ++ [now] := by rw [hcut, hfd, cutF, if_neg (fun e => h35 (by subst e; rfl))]
        refine T_region ?_
        refine L_y (y_move rfl) rfl ?_
        refine L_y (y_move rfl) rfl ?_
        refine L_o (o_bsl [_] te53 zz9 S2 rfl rfl rfl rfl rfl rfl rfl rfl fun b8 w8 S8 => ?_)
        refine L_o (o_app te53 S8 0 rfl rfl rfl (by first | exact S8.row 0 rfl | exact S8.row 1 rfl) (by first | exact bL_one _ | exact iL_one _ | (intro u hu; simp at hu; subst hu; rfl) | (simp; done) | (simp [Value.oneCell']; done)) rfl (by omega) (by omega) fun A9 c9 w9 S9 => ?_)
        have S9d := S9.drop (rs' := [_]) (.cons_cons _ (.cons _ (.refl _)))
        refine L_y (y_assign rfl) rfl ?_
        refine L_nil ?_
        refine hK13 _ _ ?_
        refine T_seq fun K15 hK15 => ?_
        refine T_region ?_
        refine L_y (y_move rfl) rfl ?_
        refine L_y (y_assign rfl) rfl ?_
        refine L_nil ?_
        refine hK15 _ _ ?_
        refine T_ret ?_
        repeat (first | with_reducible refine up_then ?_ | with_reducible refine up_in ?_)
        refine ret1 rfl rfl ?_
        have S9 := S9d.rowc 0 rfl (n' := (cuts l).length) (xs' := (cuts l).map sV) (by rw [hfin]; simp) (by rw [hfin, List.map_append]; rfl)
        exact ⟨_, rfl, S9d.like0, _, _, _, rfl, by have h := S9.own 0 rfl; rw [hfin] at h ⊢; simpa using h⟩
      ·
        have hnow : now = [] := by have h1 := congrArg ByteArray.size (Classical.not_not.1 h35); rw [bsz] at h1; exact List.length_eq_zero_iff.1 h1
        have hfin0 : cuts l = done := by rw [hcut, hfd, cutF, if_pos hnow, List.append_nil]
        refine T_skip ?_
        refine hK13 _ _ ?_
        refine T_seq fun K16 hK16 => ?_
        refine T_region ?_
        refine L_y (y_move rfl) rfl ?_
        refine L_y (y_assign rfl) rfl ?_
        refine L_nil ?_
        refine hK16 _ _ ?_
        refine T_ret ?_
        repeat (first | with_reducible refine up_then ?_ | with_reducible refine up_in ?_)
        refine ret1 rfl rfl ?_
        exact ⟨_, rfl, S2.like0, _, _, _, rfl, by rw [hfin0]; exact S2.own 0 rfl⟩
end Go.Proofs.Ytaknmlajhedfhaa
