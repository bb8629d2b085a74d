/-
  The field: best.
-/
import Derived.Test.YtgapdndbelnknaaE
namespace Go.Proofs.Ytgapdndbelnknaa
open Go.RowKit Zk Zx
set_option linter.unusedVariables false
set_option linter.unusedSimpArgs false

/-- What is known of the rows that are there. -/
def Tab (la lb : List Int) (D : List (List Int)) : Prop := ∀ d off : Int, d < D.length → Good la lb d off (atV D d off)
theorem good_range {la lb : List Int} {d off v : Int} (h : Good la lb d off v) (hn : la.length ≤ 1048576) : 0 ≤ v ∧ v ≤ farN := by
  rcases h.sound with h1 | ⟨i, h1, k, h2, h3, _⟩
  · rw [h1]; unfold farN; omega
  · unfold farN; omega
def c1 (la : List Int) (d : Int) : Int := if d = 0 then (la.length : Int) else farN
def c2 (la : List Int) (d x2 : Int) : Int := if x2 < c1 la d then x2 else c1 la d
def c3 (la lb : List Int) (d diag x2 xa : Int) : Int := if xa < farN ∧ 0 ≤ xa - 1 ∧ xa - 1 < c2 la d x2 ∧ xa - 1 - diag ≤ lb.length then xa - 1 else c2 la d x2
theorem cand_c (la lb : List Int) (d diag x2 xa xb : Int) : candN la lb d diag x2 xa xb = if xb < farN ∧ 0 ≤ xb - diag ∧ xb < c3 la lb d diag x2 xa then xb else c3 la lb d diag x2 xa := rfl
theorem c1_r (la : List Int) (d : Int) (h : la.length ≤ 1048576) : 0 ≤ c1 la d ∧ c1 la d ≤ farN := by unfold c1; split <;> unfold farN <;> omega
theorem c2_r (la : List Int) (d x2 : Int) (h : la.length ≤ 1048576) (h2 : 0 ≤ x2) : 0 ≤ c2 la d x2 ∧ c2 la d x2 ≤ farN := by have := c1_r la d h; unfold c2; split <;> omega
theorem c3_r (la lb : List Int) (d diag x2 xa : Int) (h : la.length ≤ 1048576) (h2 : 0 ≤ x2) : 0 ≤ c3 la lb d diag x2 xa ∧ c3 la lb d diag x2 xa ≤ farN := by
  have := c2_r la d x2 h h2
  unfold c3
  by_cases h3 : xa < farN ∧ 0 ≤ xa - 1 ∧ xa - 1 < c2 la d x2 ∧ xa - 1 - diag ≤ lb.length
  · rw [if_pos h3]; omega
  · rw [if_neg h3]; omega


set_option maxRecDepth 100000 in
theorem fbest (g : Nat) (A : Option Addr) (n ca : Nat) (B : Option Addr) (m cb : Nat) (la lb : List Int) (D : List (List Int)) (d off en : Int) (w0 : World) (hf : FR w0 g A n ca B m cb la lb D) (hn : n ≤ 1048576) (hm : m ≤ 1048576) (hD : D.length ≤ 1048576) (hdD : d = D.length) (hd0 : 0 ≤ d) (ho1 : -d ≤ off) (ho2 : off ≤ d) (he : en = (n : Int) - m) (ht : Tab la lb D) :
    Calls Try.prog 26 #[.pointer (some ⟨g, 0, none⟩), .int .i64 d, .int .i64 off, .int .i64 en] w0 fun e w' => ∃ u, e = .returned u ∧ Like w0 w' ∧ ∃ v : Int, u = .int .i64 v ∧ Good la lb d off v := by
  refine enter1 (env := [(0, .pointer (some ⟨g, 0, none⟩)), (1, .int .i64 d), (2, .int .i64 off), (3, .int .i64 en)]) [.pointer (some ⟨g, 0, none⟩), .int .i64 d, .int .i64 off, .int .i64 en] Try.func26 rfl Try.ntmps26 rfl rfl ?_
  have hf0 := hf; obtain ⟨R, nr, cr, SS, vs, hB, hA1, hB1, hR1, hnr, hrows⟩ := hf; have hla := lenI hA1; have hlb := lenI hB1; have S0 := St.start w0 noM
  refine T_seq fun K1 hK1 => ?_
  refine T_region ?_
  refine L_y (y_assign rfl) rfl ?_
  refine L_nil ?_
  refine hK1 _ _ ?_
  refine T_seq fun K2 hK2 => ?_
  have hlf : (la.length : Int) < farN := by unfold farN; omega
  have hdg : en + off = (la.length : Int) - lb.length + off := by omega
  have hg2 := ht (d - 2) off (by omega)
  have hga := ht (d - 1) (off + 1) (by omega)
  have hgb := ht (d - 1) (off - 1) (by omega)
  have hr2 := good_range hg2 (by omega)
  have hra := good_range hga (by omega)
  have hrb := good_range hgb (by omega)
  have hfN : farN = 1073741824 := rfl
  have hc1 := c1_r la d (by omega)
  have hc2 := c2_r la d (atV D (d - 2) off) (by omega) hr2.1
  have hc3 := c3_r la lb d (en + off) (atV D (d - 2) off) (atV D (d - 1) (off + 1)) (by omega) hr2.1
  refine T_region ?_
  refine L_y (y_move rfl) rfl ?_
  refine L_y (y_move rfl) rfl ?_
  refine L_y (y_add rfl rfl (i64w (by omega))) rfl ?_
  refine L_y (y_assign rfl) rfl ?_
  refine L_nil ?_
  refine hK2 _ _ ?_
  refine T_seq fun K3 hK3 => ?_
  refine T_region ?_
  refine L_y (y_assign rfl) rfl ?_
  refine L_nil ?_
  refine hK3 _ _ ?_
  refine T_seqR (fun (e : Env) (w : World) => Sub [(0, .pointer (some ⟨g, 0, none⟩)), (1, .int .i64 d), (2, .int .i64 off), (9, .int .i64 (en + off)), (10, .int .i64 (c1 la d))] e ∧ St w0 noM [] w) ?_ ?_
  ·
    refine T_seq fun K5 hK5 => ?_
    refine T_region ?_
    refine L_y (y_move rfl) rfl ?_
    refine L_y (y_eql rfl rfl) rfl ?_
    refine L_nil ?_
    refine hK5 _ _ ?_
    refine T_cond rfl (fun h18 => ?_) (fun h18 => ?_)
    ·
      refine T_region ?_
      refine L_y (y_move rfl) rfl ?_
      refine L_y (y_nilp rfl) rfl ?_
      refine L_y (y_fieldA 0 Try.underlying54 rfl sz22 rfl rfl rfl) rfl ?_
      refine L_y (y_ldc Try.underlying22 rfl rfl (((S0.rdB hB).cell _).trans (show (#[Value.slice A n ca, .slice B m cb, .slice R nr cr, SS] : Array Value)[0]? = some (Value.slice A n ca) from rfl))) rfl ?_
      refine L_y (y_len Try.underlying22 rfl) rfl ?_
      refine L_y (y_assign rfl) rfl ?_
      refine L_nil ?_
      exact ⟨(Sub.cons rfl (by first | rfl | exact congrArg (Value.int _) (by omega)) (Sub.cons rfl (by first | rfl | exact congrArg (Value.int _) (by omega)) (Sub.cons rfl (by first | rfl | exact congrArg (Value.int _) (by omega)) (Sub.cons rfl (by first | rfl | exact congrArg (Value.int _) (by omega)) (Sub.cons rfl (congrArg (Value.int _) (by first | (rw [c1, if_pos (by omega)]; omega) | (rw [c1, if_neg (by omega)]; rfl))) (Sub.nil _)))))), S0⟩
    ·
      refine T_skip ?_
      exact ⟨(Sub.cons rfl (by first | rfl | exact congrArg (Value.int _) (by omega)) (Sub.cons rfl (by first | rfl | exact congrArg (Value.int _) (by omega)) (Sub.cons rfl (by first | rfl | exact congrArg (Value.int _) (by omega)) (Sub.cons rfl (by first | rfl | exact congrArg (Value.int _) (by omega)) (Sub.cons rfl (congrArg (Value.int _) (by first | (rw [c1, if_pos (by omega)]; omega) | (rw [c1, if_neg (by omega)]; rfl))) (Sub.nil _)))))), S0⟩
  ·
    rintro e1 w1 ⟨hsub, S1⟩
    refine T_weak hsub ?_
    refine T_seqR (fun (e : Env) (w : World) => Sub [(0, .pointer (some ⟨g, 0, none⟩)), (1, .int .i64 d), (2, .int .i64 off), (9, .int .i64 (en + off)), (10, .int .i64 (c2 la d (atV D (d - 2) off)))] e ∧ St w0 noM [] w) ?_ ?_
    ·
      refine T_seq fun K7 hK7 => ?_
      refine T_region ?_
      refine L_y (y_move rfl) rfl ?_
      refine L_y (y_move rfl) rfl ?_
      refine L_y (y_sub rfl rfl (i64w (by omega))) rfl ?_
      refine L_y (y_move rfl) rfl ?_
      refine L_o (o_call Try.func27 rfl rfl (fat g A n ca B m cb la lb D (d - 2) (off) w1 (hf0.like S1.like0) (by omega) (by omega) (by omega) hD) rfl rfl ?_)
      rintro e2 w2 ⟨v2, rfl, l2, rfl⟩
      refine ⟨_, rfl, ?_⟩
      have S2 := S1.like l2
      refine L_y (y_assign rfl) rfl ?_
      refine L_nil ?_
      refine hK7 _ _ ?_
      refine T_seq fun K8 hK8 => ?_
      refine T_region ?_
      refine L_y (y_move rfl) rfl ?_
      refine L_y (y_move rfl) rfl ?_
      refine L_y (y_lss rfl rfl) rfl ?_
      refine L_nil ?_
      refine hK8 _ _ ?_
      refine T_cond rfl (fun h31 => ?_) (fun h31 => ?_)
      ·
        refine T_region ?_
        refine L_y (y_move rfl) rfl ?_
        refine L_y (y_assign rfl) rfl ?_
        refine L_nil ?_
        exact ⟨(Sub.cons rfl (by first | rfl | exact congrArg (Value.int _) (by omega)) (Sub.cons rfl (by first | rfl | exact congrArg (Value.int _) (by omega)) (Sub.cons rfl (by first | rfl | exact congrArg (Value.int _) (by omega)) (Sub.cons rfl (by first | rfl | exact congrArg (Value.int _) (by omega)) (Sub.cons rfl (congrArg (Value.int _) (by first | rw [c2, if_pos (by omega)] | rw [c2, if_neg (by omega)])) (Sub.nil _)))))), S2⟩
      ·
        refine T_skip ?_
        exact ⟨(Sub.cons rfl (by first | rfl | exact congrArg (Value.int _) (by omega)) (Sub.cons rfl (by first | rfl | exact congrArg (Value.int _) (by omega)) (Sub.cons rfl (by first | rfl | exact congrArg (Value.int _) (by omega)) (Sub.cons rfl (by first | rfl | exact congrArg (Value.int _) (by omega)) (Sub.cons rfl (congrArg (Value.int _) (by first | rw [c2, if_pos (by omega)] | rw [c2, if_neg (by omega)])) (Sub.nil _)))))), S2⟩
    ·
      rintro e3 w3 ⟨hsub, S3⟩
      refine T_weak hsub ?_
      refine T_seqR (fun (e : Env) (w : World) => Sub [(0, .pointer (some ⟨g, 0, none⟩)), (1, .int .i64 d), (2, .int .i64 off), (9, .int .i64 (en + off)), (10, .int .i64 (c3 la lb d (en + off) (atV D (d - 2) off) (atV D (d - 1) (off + 1))))] e ∧ St w0 noM [] w) ?_ ?_
      ·
        refine T_seq fun K10 hK10 => ?_
        refine T_region ?_
        refine L_y (y_move rfl) rfl ?_
        refine L_y (y_move rfl) rfl ?_
        refine L_y (y_sub rfl rfl (i64w (by omega))) rfl ?_
        refine L_y (y_move rfl) rfl ?_
        refine L_y (y_add rfl rfl (i64w (by omega))) rfl ?_
        refine L_o (o_call Try.func27 rfl rfl (fat g A n ca B m cb la lb D (d - 1) (off + 1) w3 (hf0.like S3.like0) (by omega) (by omega) (by omega) hD) rfl rfl ?_)
        rintro e4 w4 ⟨v4, rfl, l4, rfl⟩
        refine ⟨_, rfl, ?_⟩
        have S4 := S3.like l4
        refine L_y (y_assign rfl) rfl ?_
        refine L_nil ?_
        refine hK10 _ _ ?_
        refine T_seq fun K11 hK11 => ?_
        refine T_region ?_
        refine L_y (y_move rfl) rfl ?_
        refine L_y (y_lss rfl rfl) rfl ?_
        refine L_y (y_move rfl) rfl ?_
        refine L_split 41 rfl (fun h41 => ?_) (fun h41 => ?_)
        ·
          refine L_gyes rfl rfl ?_
          refine L_y (y_move rfl) rfl ?_
          refine L_gyes rfl rfl ?_
          refine L_y (y_sub rfl rfl (i64w (by omega))) rfl ?_
          refine L_gyes rfl rfl ?_
          refine L_y (y_geq rfl rfl) rfl ?_
          refine L_y ((by first | exact y_pickT rfl rfl | exact y_pickF rfl rfl)) rfl ?_
          refine L_y (y_move rfl) rfl ?_
          refine L_split 46 rfl (fun h46 => ?_) (fun h46 => ?_)
          ·
            refine L_gyes rfl rfl ?_
            refine L_y (y_move rfl) rfl ?_
            refine L_gyes rfl rfl ?_
            refine L_y (y_sub rfl rfl (i64w (by omega))) rfl ?_
            refine L_gyes rfl rfl ?_
            refine L_y (y_move rfl) rfl ?_
            refine L_gyes rfl rfl ?_
            refine L_y (y_lss rfl rfl) rfl ?_
            refine L_y ((by first | exact y_pickT rfl rfl | exact y_pickF rfl rfl)) rfl ?_
            refine L_y (y_move rfl) rfl ?_
            refine L_split 52 rfl (fun h52 => ?_) (fun h52 => ?_)
            ·
              refine L_gyes rfl rfl ?_
              refine L_y (y_move rfl) rfl ?_
              refine L_gyes rfl rfl ?_
              refine L_y (y_sub rfl rfl (i64w (by omega))) rfl ?_
              refine L_gyes rfl rfl ?_
              refine L_y (y_move rfl) rfl ?_
              refine L_gyes rfl rfl ?_
              refine L_y (y_sub rfl rfl (i64w (by omega))) rfl ?_
              refine L_gyes rfl rfl ?_
              refine L_y (y_move rfl) rfl ?_
              refine L_gyes rfl rfl ?_
              refine L_y (y_nilp rfl) rfl ?_
              refine L_gyes rfl rfl ?_
              refine L_y (y_fieldA 1 Try.underlying54 rfl sz22 rfl rfl rfl) rfl ?_
              refine L_gyes rfl rfl ?_
              refine L_y (y_ldc Try.underlying22 rfl rfl (((S4.rdB hB).cell _).trans (show (#[Value.slice A n ca, .slice B m cb, .slice R nr cr, SS] : Array Value)[1]? = some (Value.slice B m cb) from rfl))) rfl ?_
              refine L_gyes rfl rfl ?_
              refine L_y (y_len Try.underlying22 rfl) rfl ?_
              refine L_gyes rfl rfl ?_
              refine L_y (y_leq rfl rfl) rfl ?_
              refine L_y ((by first | exact y_pickT rfl rfl | exact y_pickF rfl rfl)) rfl ?_
              refine L_nil ?_
              refine hK11 _ _ ?_
              refine T_cond rfl (fun h63 => ?_) (fun h63 => ?_)
              ·
                refine T_region ?_
                refine L_y (y_move rfl) rfl ?_
                refine L_y (y_sub rfl rfl (i64w (by omega))) rfl ?_
                refine L_y (y_assign rfl) rfl ?_
                refine L_nil ?_
                exact ⟨(Sub.cons rfl (by first | rfl | exact congrArg (Value.int _) (by omega)) (Sub.cons rfl (by first | rfl | exact congrArg (Value.int _) (by omega)) (Sub.cons rfl (by first | rfl | exact congrArg (Value.int _) (by omega)) (Sub.cons rfl (by first | rfl | exact congrArg (Value.int _) (by omega)) (Sub.cons rfl (congrArg (Value.int _) (by first | rw [c3, if_pos ⟨by omega, by omega, by omega, by omega⟩] | rw [c3, if_neg (fun h => by obtain ⟨q1, q2, q3, q4⟩ := h; omega)])) (Sub.nil _)))))), S4⟩
              ·
                refine T_skip ?_
                exact ⟨(Sub.cons rfl (by first | rfl | exact congrArg (Value.int _) (by omega)) (Sub.cons rfl (by first | rfl | exact congrArg (Value.int _) (by omega)) (Sub.cons rfl (by first | rfl | exact congrArg (Value.int _) (by omega)) (Sub.cons rfl (by first | rfl | exact congrArg (Value.int _) (by omega)) (Sub.cons rfl (congrArg (Value.int _) (by first | rw [c3, if_pos ⟨by omega, by omega, by omega, by omega⟩] | rw [c3, if_neg (fun h => by obtain ⟨q1, q2, q3, q4⟩ := h; omega)])) (Sub.nil _)))))), S4⟩
            ·
              refine L_gno rfl rfl rfl ?_
              refine L_gno rfl rfl rfl ?_
              refine L_gno rfl rfl rfl ?_
              refine L_gno rfl rfl rfl ?_
              refine L_gno rfl rfl rfl ?_
              refine L_gno rfl rfl rfl ?_
              refine L_gno rfl rfl rfl ?_
              refine L_gno rfl rfl rfl ?_
              refine L_gno rfl rfl rfl ?_
              refine L_gno rfl rfl rfl ?_
              refine L_y ((by first | exact y_pickT rfl rfl | exact y_pickF rfl rfl)) rfl ?_
              refine L_nil ?_
              refine hK11 _ _ ?_
              refine T_false rfl ?_
              refine T_skip ?_
              exact ⟨(Sub.cons rfl (by first | rfl | exact congrArg (Value.int _) (by omega)) (Sub.cons rfl (by first | rfl | exact congrArg (Value.int _) (by omega)) (Sub.cons rfl (by first | rfl | exact congrArg (Value.int _) (by omega)) (Sub.cons rfl (by first | rfl | exact congrArg (Value.int _) (by omega)) (Sub.cons rfl (congrArg (Value.int _) (by first | rw [c3, if_pos ⟨by omega, by omega, by omega, by omega⟩] | rw [c3, if_neg (fun h => by obtain ⟨q1, q2, q3, q4⟩ := h; omega)])) (Sub.nil _)))))), S4⟩
          ·
            refine L_gno rfl rfl rfl ?_
            refine L_gno rfl rfl rfl ?_
            refine L_gno rfl rfl rfl ?_
            refine L_gno rfl rfl rfl ?_
            refine L_y ((by first | exact y_pickT rfl rfl | exact y_pickF rfl rfl)) rfl ?_
            refine L_y (y_move rfl) rfl ?_
            refine L_gno rfl rfl rfl ?_
            refine L_gno rfl rfl rfl ?_
            refine L_gno rfl rfl rfl ?_
            refine L_gno rfl rfl rfl ?_
            refine L_gno rfl rfl rfl ?_
            refine L_gno rfl rfl rfl ?_
            refine L_gno rfl rfl rfl ?_
            refine L_gno rfl rfl rfl ?_
            refine L_gno rfl rfl rfl ?_
            refine L_gno rfl rfl rfl ?_
            refine L_y ((by first | exact y_pickT rfl rfl | exact y_pickF rfl rfl)) rfl ?_
            refine L_nil ?_
            refine hK11 _ _ ?_
            refine T_false rfl ?_
            refine T_skip ?_
            exact ⟨(Sub.cons rfl (by first | rfl | exact congrArg (Value.int _) (by omega)) (Sub.cons rfl (by first | rfl | exact congrArg (Value.int _) (by omega)) (Sub.cons rfl (by first | rfl | exact congrArg (Value.int _) (by omega)) (Sub.cons rfl (by first | rfl | exact congrArg (Value.int _) (by omega)) (Sub.cons rfl (congrArg (Value.int _) (by first | rw [c3, if_pos ⟨by omega, by omega, by omega, by omega⟩] | rw [c3, if_neg (fun h => by obtain ⟨q1, q2, q3, q4⟩ := h; omega)])) (Sub.nil _)))))), S4⟩
        ·
          refine L_gno rfl rfl rfl ?_
          refine L_gno rfl rfl rfl ?_
          refine L_gno rfl rfl rfl ?_
          refine L_y ((by first | exact y_pickT rfl rfl | exact y_pickF rfl rfl)) rfl ?_
          refine L_y (y_move rfl) rfl ?_
          refine L_gno rfl rfl rfl ?_
          refine L_gno rfl rfl rfl ?_
          refine L_gno rfl rfl rfl ?_
          refine L_gno rfl rfl rfl ?_
          refine L_y ((by first | exact y_pickT rfl rfl | exact y_pickF rfl rfl)) rfl ?_
          refine L_y (y_move rfl) rfl ?_
          refine L_gno rfl rfl rfl ?_
          refine L_gno rfl rfl rfl ?_
          refine L_gno rfl rfl rfl ?_
          refine L_gno rfl rfl rfl ?_
          refine L_gno rfl rfl rfl ?_
          refine L_gno rfl rfl rfl ?_
          refine L_gno rfl rfl rfl ?_
          refine L_gno rfl rfl rfl ?_
          refine L_gno rfl rfl rfl ?_
          refine L_gno rfl rfl rfl ?_
          refine L_y ((by first | exact y_pickT rfl rfl | exact y_pickF rfl rfl)) rfl ?_
          refine L_nil ?_
          refine hK11 _ _ ?_
          refine T_false rfl ?_
          refine T_skip ?_
          exact ⟨(Sub.cons rfl (by first | rfl | exact congrArg (Value.int _) (by omega)) (Sub.cons rfl (by first | rfl | exact congrArg (Value.int _) (by omega)) (Sub.cons rfl (by first | rfl | exact congrArg (Value.int _) (by omega)) (Sub.cons rfl (by first | rfl | exact congrArg (Value.int _) (by omega)) (Sub.cons rfl (congrArg (Value.int _) (by first | rw [c3, if_pos ⟨by omega, by omega, by omega, by omega⟩] | rw [c3, if_neg (fun h => by obtain ⟨q1, q2, q3, q4⟩ := h; omega)])) (Sub.nil _)))))), S4⟩
      ·
        rintro e8 w8 ⟨hsub, S8⟩
        refine T_weak hsub ?_
        refine T_seqR (fun (e : Env) (w : World) => Sub [(0, .pointer (some ⟨g, 0, none⟩)), (1, .int .i64 d), (2, .int .i64 off), (9, .int .i64 (en + off)), (10, .int .i64 (candN la lb d (en + off) (atV D (d - 2) off) (atV D (d - 1) (off + 1)) (atV D (d - 1) (off - 1))))] e ∧ St w0 noM [] w) ?_ ?_
        ·
          refine T_seq fun K13 hK13 => ?_
          refine T_region ?_
          refine L_y (y_move rfl) rfl ?_
          refine L_y (y_move rfl) rfl ?_
          refine L_y (y_sub rfl rfl (i64w (by omega))) rfl ?_
          refine L_y (y_move rfl) rfl ?_
          refine L_y (y_sub rfl rfl (i64w (by omega))) rfl ?_
          refine L_o (o_call Try.func27 rfl rfl (fat g A n ca B m cb la lb D (d - 1) (off - 1) w8 (hf0.like S8.like0) (by omega) (by omega) (by omega) hD) rfl rfl ?_)
          rintro e9 w9 ⟨v9, rfl, l9, rfl⟩
          refine ⟨_, rfl, ?_⟩
          have S9 := S8.like l9
          refine L_y (y_assign rfl) rfl ?_
          refine L_nil ?_
          refine hK13 _ _ ?_
          refine T_seq fun K14 hK14 => ?_
          refine T_region ?_
          refine L_y (y_move rfl) rfl ?_
          refine L_y (y_lss rfl rfl) rfl ?_
          refine L_y (y_move rfl) rfl ?_
          refine L_split 74 rfl (fun h74 => ?_) (fun h74 => ?_)
          ·
            refine L_gyes rfl rfl ?_
            refine L_y (y_move rfl) rfl ?_
            refine L_gyes rfl rfl ?_
            refine L_y (y_move rfl) rfl ?_
            refine L_gyes rfl rfl ?_
            refine L_y (y_sub rfl rfl (i64w (by omega))) rfl ?_
            refine L_gyes rfl rfl ?_
            refine L_y (y_geq rfl rfl) rfl ?_
            refine L_y ((by first | exact y_pickT rfl rfl | exact y_pickF rfl rfl)) rfl ?_
            refine L_y (y_move rfl) rfl ?_
            refine L_split 80 rfl (fun h80 => ?_) (fun h80 => ?_)
            ·
              refine L_gyes rfl rfl ?_
              refine L_y (y_move rfl) rfl ?_
              refine L_gyes rfl rfl ?_
              refine L_y (y_move rfl) rfl ?_
              refine L_gyes rfl rfl ?_
              refine L_y (y_lss rfl rfl) rfl ?_
              refine L_y ((by first | exact y_pickT rfl rfl | exact y_pickF rfl rfl)) rfl ?_
              refine L_nil ?_
              refine hK14 _ _ ?_
              refine T_cond rfl (fun h84 => ?_) (fun h84 => ?_)
              ·
                refine T_region ?_
                refine L_y (y_move rfl) rfl ?_
                refine L_y (y_assign rfl) rfl ?_
                refine L_nil ?_
                exact ⟨(Sub.cons rfl (by first | rfl | exact congrArg (Value.int _) (by omega)) (Sub.cons rfl (by first | rfl | exact congrArg (Value.int _) (by omega)) (Sub.cons rfl (by first | rfl | exact congrArg (Value.int _) (by omega)) (Sub.cons rfl (by first | rfl | exact congrArg (Value.int _) (by omega)) (Sub.cons rfl (congrArg (Value.int _) (by first | rw [cand_c, if_pos ⟨by omega, by omega, by omega⟩] | rw [cand_c, if_neg (fun h => by obtain ⟨q1, q2, q3⟩ := h; omega)])) (Sub.nil _)))))), S9⟩
              ·
                refine T_skip ?_
                exact ⟨(Sub.cons rfl (by first | rfl | exact congrArg (Value.int _) (by omega)) (Sub.cons rfl (by first | rfl | exact congrArg (Value.int _) (by omega)) (Sub.cons rfl (by first | rfl | exact congrArg (Value.int _) (by omega)) (Sub.cons rfl (by first | rfl | exact congrArg (Value.int _) (by omega)) (Sub.cons rfl (congrArg (Value.int _) (by first | rw [cand_c, if_pos ⟨by omega, by omega, by omega⟩] | rw [cand_c, if_neg (fun h => by obtain ⟨q1, q2, q3⟩ := h; omega)])) (Sub.nil _)))))), S9⟩
            ·
              refine L_gno rfl rfl rfl ?_
              refine L_gno rfl rfl rfl ?_
              refine L_gno rfl rfl rfl ?_
              refine L_y ((by first | exact y_pickT rfl rfl | exact y_pickF rfl rfl)) rfl ?_
              refine L_nil ?_
              refine hK14 _ _ ?_
              refine T_false rfl ?_
              refine T_skip ?_
              exact ⟨(Sub.cons rfl (by first | rfl | exact congrArg (Value.int _) (by omega)) (Sub.cons rfl (by first | rfl | exact congrArg (Value.int _) (by omega)) (Sub.cons rfl (by first | rfl | exact congrArg (Value.int _) (by omega)) (Sub.cons rfl (by first | rfl | exact congrArg (Value.int _) (by omega)) (Sub.cons rfl (congrArg (Value.int _) (by first | rw [cand_c, if_pos ⟨by omega, by omega, by omega⟩] | rw [cand_c, if_neg (fun h => by obtain ⟨q1, q2, q3⟩ := h; omega)])) (Sub.nil _)))))), S9⟩
          ·
            refine L_gno rfl rfl rfl ?_
            refine L_gno rfl rfl rfl ?_
            refine L_gno rfl rfl rfl ?_
            refine L_gno rfl rfl rfl ?_
            refine L_y ((by first | exact y_pickT rfl rfl | exact y_pickF rfl rfl)) rfl ?_
            refine L_y (y_move rfl) rfl ?_
            refine L_gno rfl rfl rfl ?_
            refine L_gno rfl rfl rfl ?_
            refine L_gno rfl rfl rfl ?_
            refine L_y ((by first | exact y_pickT rfl rfl | exact y_pickF rfl rfl)) rfl ?_
            refine L_nil ?_
            refine hK14 _ _ ?_
            refine T_false rfl ?_
            refine T_skip ?_
            exact ⟨(Sub.cons rfl (by first | rfl | exact congrArg (Value.int _) (by omega)) (Sub.cons rfl (by first | rfl | exact congrArg (Value.int _) (by omega)) (Sub.cons rfl (by first | rfl | exact congrArg (Value.int _) (by omega)) (Sub.cons rfl (by first | rfl | exact congrArg (Value.int _) (by omega)) (Sub.cons rfl (congrArg (Value.int _) (by first | rw [cand_c, if_pos ⟨by omega, by omega, by omega⟩] | rw [cand_c, if_neg (fun h => by obtain ⟨q1, q2, q3⟩ := h; omega)])) (Sub.nil _)))))), S9⟩
        ·
          rintro e12 w12 ⟨hsub, S12⟩
          refine T_weak hsub ?_
          refine T_seq fun K15 hK15 => ?_
          refine T_seq fun K16 hK16 => ?_
          refine T_region ?_
          refine L_y (y_move rfl) rfl ?_
          refine L_y (y_eql rfl rfl) rfl ?_
          refine L_nil ?_
          refine hK16 _ _ ?_
          refine T_cond rfl (fun h87 => ?_) (fun h87 => ?_)
          ·
            refine T_seq fun K17 hK17 => ?_
            refine T_region ?_
            refine L_y (y_assign rfl) rfl ?_
            refine L_nil ?_
            refine hK17 _ _ ?_
            refine T_ret ?_
            repeat (first | with_reducible refine up_then ?_ | with_reducible refine up_in ?_)
            refine ret1 rfl rfl ?_
            first | exact ⟨_, rfl, S12.like0, _, rfl, good_slid hlf hd0 ⟨ho1, ho2⟩ hg2 hga hgb hdg hi0 (by omega) hsl⟩ | exact ⟨_, rfl, S12.like0, farN, rfl, good_far hlf hd0 hg2 hga hgb hdg h87⟩
          ·
            obtain ⟨i0, hi0, hin⟩ := (cand_sound hlf ⟨ho1, ho2⟩ hg2 hga hgb hdg).resolve_left h87
            have hin2 := hin
            obtain ⟨k0, hk1, hk2, hk3, hk4⟩ := hin2
            have hi0n : i0 ≤ n := by omega
            have hi0d : (en + off) ≤ (i0 : Int) := by omega
            have hi0m : (i0 : Int) - (en + off) ≤ m := by omega
            rw [hi0]
            refine T_skip ?_
            refine hK15 _ _ ?_
            refine T_seq fun K18 hK18 => ?_
            refine T_region ?_
            refine L_y (y_move rfl) rfl ?_
            refine L_y (y_move rfl) rfl ?_
            refine L_y (y_move rfl) rfl ?_
            refine L_o (o_call Try.func28 rfl rfl (fslide g A n ca B m cb la lb D i0 (en + off) w12 (hf0.like S12.like0) (by omega) (by omega) hi0n hi0d hi0m) rfl rfl ?_)
            rintro e13 w13 ⟨v13, rfl, l13, j, rfl, hsl⟩
            refine ⟨_, rfl, ?_⟩
            have S13 := S12.like l13
            refine L_y (y_assign rfl) rfl ?_
            refine L_nil ?_
            refine hK18 _ _ ?_
            refine T_ret ?_
            repeat (first | with_reducible refine up_then ?_ | with_reducible refine up_in ?_)
            refine ret1 rfl rfl ?_
            first | exact ⟨_, rfl, S13.like0, _, rfl, good_slid hlf hd0 ⟨ho1, ho2⟩ hg2 hga hgb hdg hi0 (by omega) hsl⟩ | exact ⟨_, rfl, S13.like0, farN, rfl, good_far hlf hd0 hg2 hga hgb hdg h87⟩
end Go.Proofs.Ytgapdndbelnknaa
