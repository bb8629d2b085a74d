/-
  Make.
-/
import Derived.Test.YtpcgldkllnkaeaaI
namespace Go.Proofs.Ytpcgldkllnkaeaa
open Go.RowKit Zk Zx
set_option linter.unusedVariables false
set_option linter.unusedSimpArgs false

/-- What a callee made. -/
theorem Zx.St.adoptS {w0 w w' : World} {M : Nat → Prop} {rs qs : List Res} (S : St w0 M rs w) (T : St w noM qs w') : St w0 M (rs ++ qs) w' := by
  refine ⟨T.os.trans S.os, T.tape.trans S.tape, T.output.trans S.output, Nat.le_trans S.size T.size, fun i hi hM => (T.old i (Nat.lt_of_lt_of_le hi S.size) (fun h => h)).trans (S.old i hi hM), fun r hr => ?_, ?_⟩
  · rcases List.mem_append.1 hr with hr | hr
    · obtain ⟨h1, h2⟩ := S.res r hr
      exact ⟨r.stable w w' (fun i hi => T.old i (h2 i hi).1 (fun h => h)) h1, fun i hi => ⟨Nat.lt_of_lt_of_le (h2 i hi).1 T.size, (h2 i hi).2⟩⟩
    · obtain ⟨h1, h2⟩ := T.res r hr
      exact ⟨h1, fun i hi => ⟨(h2 i hi).1, .inl (by
        rcases (h2 i hi).2 with h | h
        · exact Nat.le_trans S.size h
        · exact h.elim)⟩⟩
  · rw [List.pairwise_append]
    refine ⟨S.apart, T.apart, fun a ha b hb i hi hbi => ?_⟩
    have h1 := ((S.res a ha).2 i hi).1
    rcases ((T.res b hb).2 i hbi).2 with h | h
    · omega
    · exact h
section
variable {w0 w w' : World} {M : Nat → Prop} {rs : List Res} {b : Nat} {x y : Int} {A A' : Option Addr} {n n' c c' : Nat} {ops ops' : List OP} {ps ps' : List Part}
theorem packScr (S : St w0 M (rs ++ [blk b 25 (scA x y A n c), row 57 4 A n c (ops.flatMap opf), fam (ps.map partR)]) w) : St w0 M (rs ++ [scr b x y A n c ops ps]) w := by
  have S1 := St.sepj (rs := rs ++ [blk b 25 (scA x y A n c)]) (r := row 57 4 A n c (ops.flatMap opf)) (s := fam (ps.map partR)) (by simpa using S)
  exact St.sepj (rs := rs) (by simpa using S1)
theorem unpackScr (S : St w0 M (rs ++ [scr b x y A n c ops ps]) w) : St w0 M (rs ++ [blk b 25 (scA x y A n c), row 57 4 A n c (ops.flatMap opf), fam (ps.map partR)]) w := by
  have S1 := St.seps (rs := rs) S
  have S2 := St.seps (rs := rs ++ [blk b 25 (scA x y A n c)]) (r := row 57 4 A n c (ops.flatMap opf)) (s := fam (ps.map partR)) (by simpa using S1)
  simpa using S2
theorem flushScr (S : St w0 M (rs ++ [blk b 25 (scA x y A n c), row 57 4 A n c (ops.flatMap opf), fam (ps.map partR)]) w) (T : Turned w w' (scr b x y A n c ops ps) (scr b x y A' n' c' ops' ps')) :
    St w0 M (rs ++ [blk b 25 (scA x y A' n' c'), row 57 4 A' n' c' (ops'.flatMap opf), fam (ps'.map partR)]) w' := by
  have S1 := (packScr S).turn rs.length (by simp) T
  refine unpackScr ?_
  simpa using S1
theorem holdScr (S : St w0 M (rs ++ [blk b 25 (scA x y A n c), row 57 4 A n c (ops.flatMap opf), fam (ps.map partR)]) w) :
    (scr b x y A n c ops ps).holds w ∧ (∀ i, (scr b x y A n c ops ps).dom i → i < w.heap.size) ∧ (∀ r ∈ rs, ∀ i, r.dom i → ¬ (scr b x y A n c ops ps).dom i) ∧ (∀ i, i < w0.heap.size → ¬ M i → ¬ (scr b x y A n c ops ps).dom i) := by
  have S1 := packScr S
  obtain ⟨h1, h2⟩ := S1.res (scr b x y A n c ops ps) (by simp)
  have hap := S1.apart
  rw [List.pairwise_append] at hap
  refine ⟨h1, fun i hi => (h2 i hi).1, fun r hr i hi => hap.2.2 r hr _ (by simp) i hi, fun i hi hM hd => ?_⟩
  rcases (h2 i hd).2 with h | h
  · omega
  · exact hM h
end
theorem scA_one (x y : Int) (A : Option Addr) (n c : Nat) : ∀ u ∈ (scA x y A n c).toList, u.oneCell' = true := fun u hu => by
  have : u ∈ [Value.int .i64 x, .int .i64 y, .slice A n c] := hu
  simp only [List.mem_cons, List.not_mem_nil, or_false] at this
  rcases this with rfl | rfl | rfl <;> rfl
/-- The ops that are still to come. -/
def mkR (a t : List UInt8) : Nat → Nat → Nat → List OV
  | 0, _, since => fl t since t.length
  | f + 1, at_, since => if at_ < t.length then (if (bst a (t.drop at_)).2 = 0 then mkR a t f (at_ + 1) since else fl t since at_ ++ [⟨true, ((bst a (t.drop at_)).1 : Int), ((bst a (t.drop at_)).2 : Int), []⟩] ++ mkR a t f (at_ + (bst a (t.drop at_)).2) (at_ + (bst a (t.drop at_)).2)) else fl t since t.length
/-- The script that makes t of a. -/
def mkV (a t : List UInt8) : List OV := mkR a t t.length 0 0
theorem mkR_end {a t : List UInt8} {f k s : Nat} (h : t.length ≤ k) : mkR a t f k s = fl t s t.length := by
  cases f with
  | zero => rfl
  | succ f => unfold mkR; rw [if_neg (by omega)]
theorem mkR_zero {a t : List UInt8} {f k s : Nat} (h : k < t.length) (h0 : (bst a (t.drop k)).2 = 0) : mkR a t (f + 1) k s = mkR a t f (k + 1) s := by
  conv => lhs; unfold mkR
  rw [if_pos h, if_pos h0]
theorem mkR_copy {a t : List UInt8} {f k s : Nat} (h : k < t.length) (h0 : (bst a (t.drop k)).2 ≠ 0) : mkR a t (f + 1) k s = fl t s k ++ [⟨true, ((bst a (t.drop k)).1 : Int), ((bst a (t.drop k)).2 : Int), []⟩] ++ mkR a t f (k + (bst a (t.drop k)).2) (k + (bst a (t.drop k)).2) := by
  conv => lhs; unfold mkR
  rw [if_pos h, if_neg h0]
/-- So far made, with what is to come, is all. -/
def MKI (a t : List UInt8) (k s : Nat) (ops : List OP) : Prop := ∃ f, t.length - k ≤ f ∧ ops.map OP.v ++ mkR a t f k s = mkV a t
theorem MKI.start (a t : List UInt8) : MKI a t 0 0 [] := ⟨t.length, by omega, rfl⟩
theorem MKI.zero {a t : List UInt8} {k s : Nat} {ops : List OP} (h : MKI a t k s ops) (hk : k < t.length) (h0 : (bst a (t.drop k)).2 = 0) : MKI a t (k + 1) s ops := by
  obtain ⟨f, h1, h2⟩ := h
  obtain ⟨g, rfl⟩ : ∃ g, f = g + 1 := ⟨f - 1, by omega⟩
  rw [mkR_zero hk h0] at h2
  exact ⟨g, by omega, h2⟩
theorem MKI.copy {a t : List UInt8} {k s : Nat} {ops ops' : List OP} (h : MKI a t k s ops) (hk : k < t.length) (h0 : (bst a (t.drop k)).2 ≠ 0) (ho : ops'.map OP.v = ops.map OP.v ++ fl t s k ++ [⟨true, ((bst a (t.drop k)).1 : Int), ((bst a (t.drop k)).2 : Int), []⟩]) :
    MKI a t (k + (bst a (t.drop k)).2) (k + (bst a (t.drop k)).2) ops' := by
  obtain ⟨f, h1, h2⟩ := h
  obtain ⟨g, rfl⟩ : ∃ g, f = g + 1 := ⟨f - 1, by omega⟩
  rw [mkR_copy hk h0] at h2
  refine ⟨g, by omega, ?_⟩
  rw [ho, ← h2]
  simp only [List.append_assoc]
theorem MKI.done {a t : List UInt8} {k s : Nat} {ops ops' : List OP} (h : MKI a t k s ops) (hk : t.length ≤ k) (ho : ops'.map OP.v = ops.map OP.v ++ fl t s t.length) : ops'.map OP.v = mkV a t := by
  obtain ⟨f, h1, h2⟩ := h
  rw [mkR_end hk] at h2
  rw [ho, h2]
theorem okO_of {w : World} {ops : List OP} {ps : List Part} (h : InP ops ps) (hf : (fam (ps.map partR)).holds w) : OkO w ops := fun o ho => by
  rcases h o ho with h1 | h1
  · rw [h1]; exact Rs.nil w 1
  · exact hf.1 (partR o.p) (List.mem_map.2 ⟨_, h1, rfl⟩)


set_option maxRecDepth 100000 in
theorem pmake (A B : Option Addr) (n c m d : Nat) (a t : List UInt8) (w0 : World) (ha : Rs w0 1 A n c (bL a)) (ht : Rs w0 1 B m d (bL t)) (hmx : n ≤ 4000) (hmt : m ≤ 4000) :
    Calls Try.prog 22 #[.slice A n c, .slice B m d] w0 fun e w' => ∃ u, e = .returned u ∧ Like w0 w' ∧ ∃ A' c' ops, u = .tuple #[.agg (scA (n : Int) (m : Int) A' ops.length c'), .int .i64 0] ∧ Rs w' 4 A' ops.length c' (ops.flatMap opf) ∧ OkO w' ops ∧ ops.map OP.v = mkV a t := by
  refine enter1 (env := [(0, .slice A n c), (1, .slice B m d)]) [.slice A n c, .slice B m d] Try.func22 rfl Try.ntmps22 rfl rfl ?_
  have hn := ha.lenb; have hcap := ha.cap; have hmax := ha.max; have hmn := ht.lenb; have hcap2 := ht.cap; have hmax2 := ht.max; have S0 := St.start w0 noM
  refine T_seq fun K1 hK1 => ?_
  refine T_region ?_
  refine L_o (o_box1 rfl rfl S0 rfl fun b1 w1 hb1 S1 => ?_)
  refine L_o (o_alloc zz25 S1 rfl fun b2 w2 hb2 S2 => ?_)
  refine L_y (y_assign rfl) rfl ?_
  refine L_nil ?_
  refine hK1 _ _ ?_
  refine T_seq fun K2 hK2 => ?_
  refine T_seq fun K3 hK3 => ?_
  refine T_region ?_
  refine L_y (y_move rfl) rfl ?_
  refine L_y (y_len Try.underlying22 rfl) rfl ?_
  refine L_y (y_gtr rfl rfl) rfl ?_
  refine L_y (y_move rfl) rfl ?_
  refine L_split 16 rfl (fun h16 => ?_) (fun h16 => ?_)
  ·
    omega
  ·
    refine L_gyes rfl rfl ?_
    refine L_y (y_ldc Try.underlying22 rfl rfl (((S2.blk 0 rfl).cell _).trans (by rfl))) rfl ?_
    refine L_gyes rfl rfl ?_
    refine L_y (y_len Try.underlying22 rfl) rfl ?_
    refine L_gyes rfl rfl ?_
    refine L_y (y_gtr rfl rfl) rfl ?_
    refine L_y ((by first | exact y_pickT rfl rfl | exact y_pickF rfl rfl)) rfl ?_
    refine L_nil ?_
    refine hK3 _ _ ?_
    refine T_cond rfl (fun h20 => ?_) (fun h20 => ?_)
    ·
      omega
    ·
      refine T_skip ?_
      refine hK2 _ _ ?_
      refine T_seq fun K4 hK4 => ?_
      refine T_region ?_
      refine L_y (y_move rfl) rfl ?_
      refine L_y (y_len Try.underlying22 rfl) rfl ?_
      refine L_y (y_ldc Try.underlying22 rfl rfl (((S2.blk 0 rfl).cell _).trans (by rfl))) rfl ?_
      refine L_y (y_len Try.underlying22 rfl) rfl ?_
      refine L_y (y_build rfl (show _ = some (scA (n : Int) (m : Int) none 0 0) by kernel_rfl)) rfl ?_
      refine L_o (o_alloc zz25 S2 rfl fun b4 w4 hb4 S4 => ?_)
      refine L_o (o_stW S4 2 rfl rfl rfl sz25 rfl (scA_one _ _ _ _ _) fun w5 S5 => ?_)
      refine L_nil ?_
      refine hK4 _ _ ?_
      refine T_seq fun K5 hK5 => ?_
      refine T_region ?_
      refine L_y (y_move rfl) rfl ?_
      refine L_o (o_call Try.func39 rfl rfl (places A n c a w5 (S5.rd ha) hmx) rfl rfl ?_)
      rintro e6 w6 ⟨v6, rfl, l6, bm, pes, rfl, hpi, T6⟩
      refine ⟨_, rfl, ?_⟩
      have S6 := S5.adoptS T6
      refine L_y (y_assign rfl) rfl ?_
      refine L_nil ?_
      refine hK5 _ _ ?_
      refine T_seq fun K6 hK6 => ?_
      refine T_region ?_
      refine L_o (o_alloc zz3 S6 rfl fun b7 w7 hb7 S7 => ?_)
      refine L_o (o_st1 S7 5 rfl rfl rfl rfl sz3 (by first | (simp; done) | (show 0 < 1; decide)) fun w8 S8 => ?_)
      refine L_nil ?_
      refine hK6 _ _ ?_
      refine T_seq fun K7 hK7 => ?_
      refine T_region ?_
      refine L_y (y_makeFunc rfl rfl) rfl ?_
      refine L_y (y_assign rfl) rfl ?_
      refine L_nil ?_
      refine hK7 _ _ ?_
      refine T_seq fun K8 hK8 => ?_
      refine T_seq fun K9 hK9 => ?_
      refine T_region ?_
      refine L_y (y_assign rfl) rfl ?_
      refine L_nil ?_
      refine hK9 _ _ ?_
      refine T_block ?_
      refine T_loop6 [(0, _), (3, _), (4, _), (6, _), (7, _), (8, _), (9, _)] (fun (k : Nat) (s0 : Nat) (A1 : Option Addr) (c1 : Nat) (ops : List OP) (ps : List Part) => [(10, .int .i64 (k : Int))]) (fun (k : Nat) (s0 : Nat) (A1 : Option Addr) (c1 : Nat) (ops : List OP) (ps : List Part) => m - k) (fun (k : Nat) (s0 : Nat) (A1 : Option Addr) (c1 : Nat) (ops : List OP) (ps : List Part) (w : World) => (k ≤ m ∧ s0 ≤ k ∧ ops.length ≤ 2 * k ∧ InP ops ps ∧ MKI a t k s0 ops) ∧ St w0 noM ([blk b1 22 #[.slice B m d], blk b2 25 #[.int .i64 0, .int .i64 0, .slice none 0 0], mapB 6 bm (pes.map PE.ent), fam (pes.map PE.row), blk b7 3 #[.int .i64 (s0 : Int)]] ++ [blk b4 25 (scA (n : Int) (m : Int) A1 ops.length c1), row 57 4 A1 ops.length c1 (ops.flatMap opf), fam (ps.map partR)]) w) 0 0 none 0 [] [] (Sub.cons rfl (by first | rfl | exact congrArg (Value.int _) (by omega)) (Sub.nil _)) (Sub.cons rfl rfl (Sub.cons rfl rfl (Sub.cons rfl rfl (Sub.cons rfl rfl (Sub.cons rfl rfl (Sub.cons rfl rfl (Sub.cons rfl rfl (Sub.nil _)))))))) ?_ ?_
      ·
        have S9 := ((S8.nilrow 57 4).fam0).sel [0, 1, 3, 4, 5, 2, 6, 7] (by decide)
        exact ⟨⟨Nat.zero_le _, Nat.le_refl _, Nat.le_refl _, (fun o ho => (List.not_mem_nil ho).elim), MKI.start a t⟩, S9⟩
      ·
        intro k s0 A1 c1 ops ps w9 hrel
        obtain ⟨⟨hk, hsk, hol, hin, hmk⟩, S9⟩ := hrel
        refine T_seq fun K10 hK10 => ?_
        refine T_seq fun K11 hK11 => ?_
        refine T_region ?_
        refine L_y (y_move rfl) rfl ?_
        refine L_y (y_ldc Try.underlying22 rfl rfl (((S9.blk 0 rfl).cell _).trans (by rfl))) rfl ?_
        refine L_y (y_len Try.underlying22 rfl) rfl ?_
        refine L_y (y_lss rfl rfl) rfl ?_
        refine L_nil ?_
        refine hK11 _ _ ?_
        refine T_cond rfl (fun h33 => ?_) (fun h33 => ?_)
        ·
          have hbd := bst_bd a (t.drop k)
          rw [List.length_drop] at hbd
          refine T_skip ?_
          refine hK10 _ _ ?_
          refine T_block ?_
          refine T_seq fun K12 hK12 => ?_
          refine T_region ?_
          refine L_y (y_move rfl) rfl ?_
          refine L_y (y_move rfl) rfl ?_
          refine L_y (y_ldc Try.underlying22 rfl rfl (((S9.blk 0 rfl).cell _).trans (by rfl))) rfl ?_
          refine L_y (y_move rfl) rfl ?_
          refine L_y (y_sliceL Try.underlying22 sz5 rfl rfl (Nt.mk (by omega) : Nt _ (k)) (by omega)) rfl ?_
          refine L_o (o_call Try.func42 rfl rfl (longest A (cutA B d k 1) n c (m - k) (d - k) bm a (t.drop k) pes w9 (S9.rd ha) (cut_tail (S9.rd ht) (by omega)) hmx (by omega) (S9.get 2 rfl) (S9.lt 2 rfl) (S9.get 3 rfl) hpi) rfl rfl ?_)
          rintro e10 w10 ⟨v10, rfl, l10, rfl⟩
          refine ⟨_, rfl, ?_⟩
          have S10 := S9.like l10
          refine L_y (y_move rfl) rfl ?_
          refine L_y (y_extract rfl rfl) rfl ?_
          refine L_y (y_extract rfl rfl) rfl ?_
          refine L_y (y_assign rfl) rfl ?_
          refine L_y (y_assign rfl) rfl ?_
          refine L_nil ?_
          refine hK12 _ _ ?_
          refine T_seq fun K13 hK13 => ?_
          refine T_seq fun K14 hK14 => ?_
          refine T_region ?_
          refine L_y (y_move rfl) rfl ?_
          refine L_y (y_eql rfl rfl) rfl ?_
          refine L_nil ?_
          refine hK14 _ _ ?_
          refine T_cond rfl (fun h44 => ?_) (fun h44 => ?_)
          ·
            refine T_seq fun K15 hK15 => ?_
            refine T_region ?_
            refine L_y (y_move rfl) rfl ?_
            refine L_y (y_add rfl rfl (i64w (by omega))) rfl ?_
            refine L_y (y_assign rfl) rfl ?_
            refine L_nil ?_
            refine hK15 _ _ ?_
            refine T_exit ?_
            refine ⟨k + 1, s0, A1, c1, ops, ps, by omega, ⟨⟨by omega, by omega, by omega, hin, hmk.zero (by omega) (by omega)⟩, S10⟩, ?_⟩
            exact (Sub.cons rfl (by first | rfl | exact congrArg (Value.int _) (by omega)) (Sub.cons rfl rfl (Sub.cons rfl rfl (Sub.cons rfl rfl (Sub.cons rfl rfl (Sub.cons rfl rfl (Sub.cons rfl rfl (Sub.cons rfl rfl (Sub.nil _)))))))))
          ·
            refine T_skip ?_
            refine hK13 _ _ ?_
            refine T_seq fun K16 hK16 => ?_
            refine T_region ?_
            refine L_y (y_move rfl) rfl ?_
            refine L_y (y_move rfl) rfl ?_
            refine L_o (o_callv rfl Try.func40 rfl rfl (flush k s0 b7 b4 b1 (n : Int) (m : Int) A1 B c1 m d ops ps t w10 (holdScr S10).1 (holdScr S10).2.1 (S10.blk 4 rfl) ((holdScr S10).2.2.1 (blk b7 3 #[.int .i64 (s0 : Int)]) (by simp) b7 rfl) (S10.blk 0 rfl) ((holdScr S10).2.2.1 (blk b1 22 #[.slice B m d]) (by simp) b1 rfl) (S10.rd ht) (fun ad h1 h2 => (holdScr S10).2.2.2 ad.block (old_block ht h1 h2) (fun h => h)) hmt (by omega) hin (by omega)) rfl rfl (fun d' hd => by cases hd <;> rfl) ?_)
            rintro e11 w11 ⟨v11, rfl, A2, c2, ops2, ps2, hov, hol2, hin2, T11⟩
            refine ⟨_, rfl, ?_⟩
            have S11 := flushScr S10 T11
            have hrc2 := (S11.row 6 rfl).cap; have hrm2 := (S11.row 6 rfl).max
            refine L_nil ?_
            refine hK16 _ _ ?_
            refine T_seq fun K17 hK17 => ?_
            refine T_region ?_
            refine L_y (y_fieldA 2 Try.underlying25 rfl sz23 rfl rfl rfl) rfl ?_
            refine L_y (y_ldc Try.underlying23 rfl rfl (((S11.blk 5 rfl).cell _).trans (by rfl))) rfl ?_
            refine L_y (y_move rfl) rfl ?_
            refine L_y (y_move rfl) rfl ?_
            refine L_y (y_build rfl (show _ = some #[Value.bool true, Value.int .i64 ((bst a (t.drop k)).1 : Int), Value.int .i64 ((bst a (t.drop k)).2 : Int), Value.slice none 0 0] by kernel_rfl)) rfl ?_
            refine L_o (o_bsl [_, _, _, _] te23 zz57 S11 rfl rfl rfl rfl rfl rfl rfl rfl fun b12 w12 S12 => ?_)
            refine L_o (o_app te23 S12 6 rfl rfl rfl (by first | exact S12.row 6 rfl | exact S12.fix 7 rfl | exact S12.row 8 rfl) (fun u hu => opf_one ⟨true, _, _, p0⟩ u hu) rfl (by omega) (by omega) fun A13 c13 w13 S13 => ?_)
            have S13d := S13.drop (rs' := [_, _, _, _, _, _, _, _]) (.cons_cons _ (.cons_cons _ (.cons_cons _ (.cons_cons _ (.cons_cons _ (.cons_cons _ (.cons_cons _ (.cons_cons _ (.cons _ (.refl _))))))))))
            refine L_y (y_fieldA 2 Try.underlying25 rfl sz23 rfl rfl rfl) rfl ?_
            refine L_o (o_st1 S13d 5 rfl rfl rfl rfl sz23 (by show 2 < 3; decide) fun w14 S14 => ?_)
            refine L_nil ?_
            refine hK17 _ _ ?_
            refine T_seq fun K18 hK18 => ?_
            refine T_region ?_
            refine L_y (y_move rfl) rfl ?_
            refine L_y (y_move rfl) rfl ?_
            refine L_y (y_add rfl rfl (i64w (by omega))) rfl ?_
            refine L_y (y_assign rfl) rfl ?_
            refine L_nil ?_
            refine hK18 _ _ ?_
            refine T_region ?_
            refine L_y (y_move rfl) rfl ?_
            refine L_o (o_st1 S14 4 rfl rfl rfl rfl sz3 (by first | (simp; done) | (show 0 < 1; decide)) fun w15 S15 => ?_)
            refine L_nil ?_
            have S91 := S15.blkc 5 rfl ((scA_set (n : Int) (m : Int) A2 ops2.length c2 A13 (ops2.length + 1) c13).trans (show _ = scA (n : Int) (m : Int) A13 (ops2 ++ [(⟨true, ((bst a (t.drop k)).1 : Int), ((bst a (t.drop k)).2 : Int), p0⟩ : OP)]).length c13 from by rw [List.length_append]; rfl))
            have S92 := S91.blkc 4 rfl (show _ = #[Value.int .i64 ((k + (bst a (t.drop k)).2 : Nat) : Int)] from by simp)
            have S93 := S92.rowc 6 rfl (n' := (ops2 ++ [(⟨true, ((bst a (t.drop k)).1 : Int), ((bst a (t.drop k)).2 : Int), p0⟩ : OP)]).length) (xs' := (ops2 ++ [(⟨true, ((bst a (t.drop k)).1 : Int), ((bst a (t.drop k)).2 : Int), p0⟩ : OP)]).flatMap opf) (by rw [List.length_append]; rfl) (by rw [List.flatMap_append]; rfl)
            refine ⟨k + (bst a (t.drop k)).2, k + (bst a (t.drop k)).2, A13, c13, ops2 ++ [(⟨true, ((bst a (t.drop k)).1 : Int), ((bst a (t.drop k)).2 : Int), p0⟩ : OP)], ps2, by omega, ⟨⟨by omega, Nat.le_refl _, by rw [List.length_append, List.length_singleton]; omega, hin2.add0 rfl, hmk.copy (by omega) (by omega) (by rw [List.map_append, hov]; rfl)⟩, S93⟩, ?_⟩
            exact (Sub.cons rfl (by first | rfl | exact congrArg (Value.int _) (by omega)) (Sub.cons rfl rfl (Sub.cons rfl rfl (Sub.cons rfl rfl (Sub.cons rfl rfl (Sub.cons rfl rfl (Sub.cons rfl rfl (Sub.cons rfl rfl (Sub.nil _)))))))))
        ·
          refine T_exit ?_
          refine hK8 _ _ ?_
          refine T_seq fun K19 hK19 => ?_
          refine T_region ?_
          refine L_y (y_move rfl) rfl ?_
          refine L_y (y_ldc Try.underlying22 rfl rfl (((S9.blk 0 rfl).cell _).trans (by rfl))) rfl ?_
          refine L_y (y_len Try.underlying22 rfl) rfl ?_
          refine L_o (o_callv rfl Try.func40 rfl rfl (flush m s0 b7 b4 b1 (n : Int) (m : Int) A1 B c1 m d ops ps t w9 (holdScr S9).1 (holdScr S9).2.1 (S9.blk 4 rfl) ((holdScr S9).2.2.1 (blk b7 3 #[.int .i64 (s0 : Int)]) (by simp) b7 rfl) (S9.blk 0 rfl) ((holdScr S9).2.2.1 (blk b1 22 #[.slice B m d]) (by simp) b1 rfl) (S9.rd ht) (fun ad h1 h2 => (holdScr S9).2.2.2 ad.block (old_block ht h1 h2) (fun h => h)) hmt (by omega) hin (by omega)) rfl rfl (fun d' hd => by cases hd <;> rfl) ?_)
          rintro e16 w16 ⟨v16, rfl, A2, c2, ops2, ps2, hov, hol2, hin2, T16⟩
          refine ⟨_, rfl, ?_⟩
          have S16 := flushScr S9 T16
          refine L_nil ?_
          refine hK19 _ _ ?_
          refine T_seq fun K20 hK20 => ?_
          refine T_region ?_
          refine L_y (y_ldW Try.underlying25 rfl sz25 rfl (S16.blk 5 rfl) (show _ = (scA (n : Int) (m : Int) A2 ops2.length c2).toList ∧ _ from ⟨rfl, rfl⟩)) rfl ?_
          refine L_o (o_stW S16 1 rfl rfl rfl sz25 rfl (scA_one _ _ _ _ _) fun w17 S17 => ?_)
          refine L_y (y_assign rfl) rfl ?_
          refine L_nil ?_
          refine hK20 _ _ ?_
          refine T_ret ?_
          repeat (first | with_reducible refine up_then ?_ | with_reducible refine up_in ?_)
          refine retct rfl rfl rfl (S17.blk 1 rfl) Try.underlying25 rfl (by exact sz25) ?_
          exact ⟨_, rfl, S17.like0, A2, c2, ops2, rfl, S17.row 6 rfl, okO_of hin2 (S17.get 7 rfl), hmk.done (by omega) (by rw [hmn]; exact hov)⟩
end Go.Proofs.Ytpcgldkllnkaeaa
