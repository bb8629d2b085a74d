/-
  Sorted.
-/
import Derived.Test.YtblbcmkhgjlpcaaX
import Derived.Test.YtblbcmkhgjlpcaaS
namespace Go.Proofs.Ytblbcmkhgjlpcaa
open Go.RowKit Zk Zx
set_option linter.unusedVariables false
set_option linter.unusedSimpArgs false

theorem y_sliceHM {P : Program} {S : World → Prop} {env : Env} {dst : Option Tmp} {ty : TypeId} {pos : String} {after : Array Edge} {g : Option (Nat × Bool)} {x : Operand} {t e : TypeId} {A : Option Addr} {n c u m size : Nat} {kh km : IntKind} {jh jm : Int} {j k : Operand} (ht : P.underlying t = some (.slice e)) (hsz : (P.info? e).map (·.size) = some size) (hx : ev env x = some (.slice A n c))
    (hj : ev env j = some (.int kh jh)) (hm : ev env k = some (.int km jm)) (eu : jh = (u : Int)) (em : jm = (m : Int)) (h2 : u ≤ m) (h3 : m ≤ c) :
    Y P S env ⟨dst, .slice t x none (some j) (some k), ty, pos, after, g⟩ (.slice (cutA A m 0 size) (u - 0) (m - 0)) := fun N a w' ha _ => by
  subst eu; subst em
  have he : P.elem t = e := by simp [Program.elem, ht]
  have h4 := run_slice_hm (P := P) (w := w') (t := t) (a := A) (len := n) (cap := c) (by rw [he]; exact ht) kh km (u : Int) (m : Int) (by omega) (by omega) (by omega)
  rw [he] at h4
  simp only [execOp, ha.eval hx, Option.map_some, Option.map_none, ha.eval hj, ha.eval hm, Instr.sliceAt, Sem.run_bind, run_underlying ht, Result.andThen_ok, h4, sizeOf_run hsz, Sem.run_pure, Int.toNat_natCast]
  rfl
theorem WS.of {zs : List Id} (h : ∀ i j (hi : i < zs.length) (hj : j < zs.length), i < j → lt zs[j] zs[i] = false) : WS zs := fun i j x y hx hy hij => by
  obtain ⟨hi, rfl⟩ := List.getElem?_eq_some_iff.1 hx
  obtain ⟨hj, rfl⟩ := List.getElem?_eq_some_iff.1 hy
  exact h i j hi hj hij
theorem ris_uniq : ∀ {a b : List Id}, ris a = true → ris b = true → (∀ z, z ∈ a ↔ z ∈ b) → a = b := by
  have key : ∀ {a b : List Id}, (a.Pairwise fun x y => lt x y = true) → (b.Pairwise fun x y => lt x y = true) → (∀ z, z ∈ a ↔ z ∈ b) → a = b := by
    intro a
    induction a with
    | nil =>
      intro b _ _ h
      cases b with
      | nil => rfl
      | cons y b => exact absurd ((h y).2 List.mem_cons_self) (List.not_mem_nil)
    | cons x a ih =>
      intro b ha hb h
      cases b with
      | nil => exact absurd ((h x).1 List.mem_cons_self) (List.not_mem_nil)
      | cons y b =>
        rw [List.pairwise_cons] at ha hb
        have exy : x = y := by
          rcases List.mem_cons.1 ((h x).1 List.mem_cons_self) with e | e
          · exact e
          · rcases List.mem_cons.1 ((h y).2 List.mem_cons_self) with f | f
            · exact f.symm
            · have h1 := hb.1 x e
              have h2 := ha.1 y f
              have h3 := lt_trans _ _ _ h1 h2
              rw [lt_irr] at h3; cases h3
        subst exy
        have hxa : x ∉ a := fun hm => by have := ha.1 x hm; rw [lt_irr] at this; cases this
        have hxb : x ∉ b := fun hm => by have := hb.1 x hm; rw [lt_irr] at this; cases this
        rw [ih ha.2 hb.2 fun z => ⟨fun hz => by
            rcases List.mem_cons.1 ((h z).1 (List.mem_cons_of_mem _ hz)) with e | e
            · subst e; exact absurd hz hxa
            · exact e, fun hz => by
            rcases List.mem_cons.1 ((h z).2 (List.mem_cons_of_mem _ hz)) with e | e
            · subst e; exact absurd hz hxb
            · exact e⟩]
  intro a b ha hb h
  exact key (ris_pair _ ha) (ris_pair _ hb) h
theorem rs_nil {w : World} {A : Option Addr} {n c : Nat} {l : List Id} (hl : Rs w 32 A n c (l.flatMap idf)) (h : A = none) : n = 0 := by
  subst h
  rcases Nat.eq_zero_or_pos n with q | q
  · exact q
  · obtain ⟨_, h2, _⟩ := hl.rd.2 q
    cases h2
theorem rs_nil2 {w : World} {A : Option Addr} {n c : Nat} {l : List Id} (hl : Rs w 32 A n c (l.flatMap idf)) (h : A = none) : l = [] := by
  have h1 := rs_nil hl h
  have h2 := ids_n hl
  exact List.eq_nil_of_length_eq_zero (by omega)
theorem mem_ins {xs : List Id} {j : Nat} {x z : Id} : z ∈ xs.take j ++ [x] ++ xs.drop j ↔ z ∈ xs ∨ z = x := by
  have h : z ∈ xs ↔ z ∈ xs.take j ∨ z ∈ xs.drop j := by
    conv => lhs; rw [← List.take_append_drop j xs]
    exact List.mem_append
  rw [h]
  simp only [List.mem_append, List.mem_singleton]
  constructor
  · rintro ((h | h) | h)
    · exact .inl (.inl h)
    · exact .inr h
    · exact .inl (.inr h)
  · rintro ((h | h) | h)
    · exact .inl (.inl h)
    · exact .inr h
    · exact .inl (.inr h)


set_option maxRecDepth 100000 in
theorem rsortedM (A : Option Addr) (n c : Nat) (l : List Id) (w0 : World) (hl : Rs w0 32 A n c (l.flatMap idf)) (h60 : n ≤ 4096) :
    Calls Try.prog 24 #[.slice A n c] w0 fun e w' => ∃ u, e = .returned u ∧ Like w0 w' ∧ ∃ A m c s, u = .slice A m c ∧ w'.ownsRow w0.heap.size 23 32 (.slice A m c) m (s.flatMap idf) ∧ ris s = true ∧ ∀ z, z ∈ s ↔ z ∈ l := by
  refine enter1 (env := [(0, .slice A n c)]) [.slice A n c] Try.func24 rfl Try.ntmps24 rfl rfl ?_
  have hn := ids_n hl; have hcap := hl.cap; have hmax := hl.max; have S0 := St.start w0 noM
  refine T_seq fun K1 hK1 => ?_
  refine T_region ?_
  refine L_y (y_assign rfl) rfl ?_
  refine L_nil ?_
  refine hK1 _ _ ?_
  refine T_seq fun K2 hK2 => ?_
  refine T_region ?_
  refine L_y (y_assign rfl) rfl ?_
  refine L_nil ?_
  refine hK2 _ _ ?_
  refine T_seq fun K3 hK3 => ?_
  refine T_seq fun K4 hK4 => ?_
  refine T_region ?_
  refine L_y (y_assign rfl) rfl ?_
  refine L_nil ?_
  refine hK4 _ _ ?_
  refine T_block ?_
  refine T_loop4 [(0, _)] (fun (k : Nat) (A1 : Option Addr) (c1 : Nat) (xs : List Id) => [(3, .slice A1 xs.length c1), (4, .int .i64 (k : Int))]) (fun (k : Nat) (A1 : Option Addr) (c1 : Nat) (xs : List Id) => n - k) (fun (k : Nat) (A1 : Option Addr) (c1 : Nat) (xs : List Id) (w : World) => (k ≤ n ∧ xs.length ≤ k ∧ ris xs = true ∧ ∀ z, z ∈ xs ↔ z ∈ l.take k) ∧ St w0 noM [row 23 32 A1 xs.length c1 (xs.flatMap idf)] w) 0 none 0 [] (Sub.cons rfl (by first | rfl | exact congrArg (Value.int _) (by omega)) (Sub.cons rfl (by first | rfl | exact congrArg (Value.int _) (by omega)) (Sub.nil _))) (Sub.cons rfl rfl (Sub.nil _)) ?_ ?_
  ·
    have S9 := S0.nilrow 23 32
    exact ⟨⟨Nat.zero_le _, Nat.le_refl _, rfl, fun z => by simp⟩, S9⟩
  ·
    intro k A1 c1 xs w1 hrel
    obtain ⟨⟨hk, hxk, hris, hmem⟩, S1⟩ := hrel
    refine T_seq fun K5 hK5 => ?_
    refine T_seq fun K6 hK6 => ?_
    refine T_region ?_
    refine L_y (y_move rfl) rfl ?_
    refine L_y (y_move rfl) rfl ?_
    refine L_y (y_len Try.underlying44 rfl) rfl ?_
    refine L_y (y_lss rfl rfl) rfl ?_
    refine L_nil ?_
    refine hK6 _ _ ?_
    refine T_cond rfl (fun h10 => ?_) (fun h10 => ?_)
    ·
      obtain ⟨x, hx⟩ : ∃ x, l[k]? = some x := ⟨_, List.getElem?_eq_getElem (by omega)⟩
      refine T_skip ?_
      refine hK5 _ _ ?_
      refine T_seq fun K7 hK7 => ?_
      refine T_block ?_
      refine T_seq fun K8 hK8 => ?_
      refine T_region ?_
      refine L_y (y_assign rfl) rfl ?_
      refine L_nil ?_
      refine hK8 _ _ ?_
      refine T_seq fun K9 hK9 => ?_
      refine T_block ?_
      refine T_loop1 [(0, _), (3, _), (4, _)] (fun (j : Nat) => [(5, .int .i64 (j : Int))]) (fun (j : Nat) => xs.length - j) (fun (j : Nat) (w : World) => (j ≤ xs.length ∧ ∀ i y, i < j → xs[i]? = some y → lt y x = true) ∧ St w0 noM [row 23 32 A1 xs.length c1 (xs.flatMap idf)] w) 0 (Sub.cons rfl (by first | rfl | exact congrArg (Value.int _) (by omega)) (Sub.nil _)) (Sub.cons rfl rfl (Sub.cons rfl rfl (Sub.cons rfl rfl (Sub.nil _)))) ?_ ?_
      ·
        exact ⟨⟨Nat.zero_le _, fun i y h => by omega⟩, S1⟩
      ·
        intro j w2 hrel
        obtain ⟨⟨hj, hlow⟩, S2⟩ := hrel
        refine T_seq fun K10 hK10 => ?_
        refine T_seq fun K11 hK11 => ?_
        refine T_tail 13 hmix (by kernel_rfl) fun w3 l3 K12 hK12 => ?_
        have S3 := S2.like l3
        refine HL_y (y_move rfl) rfl ?_
        refine HL_y (y_move rfl) rfl ?_
        refine HL_y (y_len Try.underlying44 rfl) rfl ?_
        refine HL_y (y_lss rfl rfl) rfl ?_
        refine HL_y (y_move rfl) rfl ?_
        refine HL_split 17 rfl (fun h17 => ?_) (fun h17 => ?_)
        ·
          obtain ⟨y, hy⟩ : ∃ y, xs[j]? = some y := ⟨_, List.getElem?_eq_getElem (by omega)⟩
          refine HL_gyes rfl rfl ?_
          refine HL_y (y_move rfl) rfl ?_
          refine HL_gyes rfl rfl ?_
          refine HL_y (y_move rfl) rfl ?_
          refine HL_gyes rfl rfl ?_
          refine HL_y (y_idx Try.underlying44 sz23 rfl rfl (S3.row 0 rfl) (Nt.mk (by omega) : Nt _ (j)) (by omega)) rfl ?_
          refine HL_gyes rfl rfl ?_
          refine HL_y (y_ldp (f := idf) idf_len Try.underlying23 rfl sz23 rfl (S3.row 0 rfl) (by omega) hy) rfl ?_
          refine HL_gyes rfl rfl ?_
          refine HL_y (y_move rfl) rfl ?_
          refine HL_gyes rfl rfl ?_
          refine HL_y (y_move rfl) rfl ?_
          refine HL_gyes rfl rfl ?_
          refine HL_y (y_idx Try.underlying44 sz23 rfl rfl (S3.rd hl) (Nt.mk (by omega) : Nt _ (k)) (by omega)) rfl ?_
          refine HL_gyes rfl rfl ?_
          refine HL_y (y_ldp (f := idf) idf_len Try.underlying23 rfl sz23 rfl (S3.rd hl) (by omega) hx) rfl ?_
          refine HL_nil ?_
          refine hK12 _ ?_
          refine L_gyes rfl rfl ?_
          refine L_o (o_call Try.func38 rfl rfl (cBelow y x w3) rfl rfl ?_)
          rintro e5 w5 ⟨v5, rfl, l5, rfl⟩
          refine ⟨_, rfl, ?_⟩
          have S5 := S3.like l5
          refine L_y ((by first | exact y_pickT rfl rfl | exact y_pickF rfl rfl)) rfl ?_
          refine L_nil ?_
          refine hK11 _ _ ?_
          refine T_condB rfl (fun h27 => ?_) (fun h27 => ?_)
          ·
            refine T_skip ?_
            refine hK10 _ _ ?_
            refine T_block ?_
            refine T_region ?_
            refine L_y (y_move rfl) rfl ?_
            refine L_y (y_add rfl rfl (i64w (by omega))) rfl ?_
            refine L_y (y_assign rfl) rfl ?_
            refine L_nil ?_
            refine ⟨j + 1, by omega, ⟨⟨by omega, fun i y2 hi hy2 => by rcases Nat.lt_or_ge i j with q9 | q9; exact hlow i y2 q9 hy2; (have e9 : i = j := by omega); subst e9; rw [hy] at hy2; cases hy2; exact h27⟩, S5⟩, ?_⟩
            exact (Sub.cons rfl (by first | rfl | exact congrArg (Value.int _) (by omega)) (Sub.cons rfl rfl (Sub.cons rfl rfl (Sub.cons rfl rfl (Sub.nil _)))))
          ·
            refine T_exit ?_
            refine hK9 _ _ ?_
            refine T_seq fun K13 hK13 => ?_
            refine T_seq fun K14 hK14 => ?_
            refine T_drawnL [(0, true), (1, true), (2, true), (3, true), (4, true), (5, true), (6, true), (7, true), (8, true), (9, true), (10, true), (11, true), (12, true), (13, true), (14, true)] hmix (by kernel_rfl) fun w6 l6 => ?_
            have S6 := S5.like l6
            refine DL_y rfl (y_move rfl) rfl ?_
            refine DL_y rfl (y_move rfl) rfl ?_
            refine DL_y rfl (y_len Try.underlying44 rfl) rfl ?_
            refine DL_y rfl (y_lss rfl rfl) rfl ?_
            refine DL_y rfl (y_move rfl) rfl ?_
            refine DL_split 34 rfl (fun h34 => ?_) (fun h34 => ?_)
            ·
              skip
              refine DL_gyes rfl rfl rfl (y_move rfl) rfl ?_
              refine DL_gyes rfl rfl rfl (y_move rfl) rfl ?_
              refine DL_gyes rfl rfl rfl (y_idx Try.underlying44 sz23 rfl rfl (S6.row 0 rfl) (Nt.mk (by omega) : Nt _ (j)) (by omega)) rfl ?_
              refine DL_gyes rfl rfl rfl (y_ldp (f := idf) idf_len Try.underlying23 rfl sz23 rfl (S6.row 0 rfl) (by omega) hy) rfl ?_
              refine DL_gyes rfl rfl rfl (y_move rfl) rfl ?_
              refine DL_gyes rfl rfl rfl (y_move rfl) rfl ?_
              refine DL_gyes rfl rfl rfl (y_idx Try.underlying44 sz23 rfl rfl (S6.rd hl) (Nt.mk (by omega) : Nt _ (k)) (by omega)) rfl ?_
              refine DL_gyes rfl rfl rfl (y_ldp (f := idf) idf_len Try.underlying23 rfl sz23 rfl (S6.rd hl) (by omega) hx) rfl ?_
              refine DL_gyes rfl rfl rfl (y_eqB Try.underlying23 Try.underlying5 sz5 (by kernel_rfl) rfl rfl y.h x.h) rfl ?_
              refine DL_y rfl ((by first | exact y_pickT rfl rfl | exact y_pickF rfl rfl)) rfl ?_
              refine DL_nil ?_
              refine hK14 _ _ ?_
              refine T_cond rfl (fun h44 => ?_) (fun h44 => ?_)
              ·
                refine T_exit ?_
                refine hK7 _ _ ?_
                refine T_region ?_
                refine L_y (y_move rfl) rfl ?_
                refine L_y (y_add rfl rfl (i64w (by omega))) rfl ?_
                refine L_y (y_assign rfl) rfl ?_
                refine L_nil ?_
                refine ⟨k + 1, A1, c1, xs, by omega, ⟨⟨by omega, by omega, hris, fun z => by rw [mem_take1 hx, ← hmem z]; exact ⟨.inl, fun h => h.elim id fun e => by rw [e, ← Id.ext h44]; exact List.mem_of_getElem? hy⟩⟩, S6⟩, ?_⟩
                exact (Sub.cons rfl (by first | rfl | (rw [hlen]; rfl) | (rw [hlen]; congr 1; omega)) (Sub.cons rfl (by first | rfl | exact congrArg (Value.int _) (by omega)) (Sub.cons rfl rfl (Sub.nil _))))
              ·
                refine T_skip ?_
                refine hK13 _ _ ?_
                refine T_seq fun K15 hK15 => ?_
                have hcp := (S6.row 0 rfl).cap
                have hno : ∀ y, xs[j]? = some y → lt y x = false ∧ y ≠ x := by first | exact (fun y2 hy2 => by have := (List.getElem?_eq_some_iff.1 hy2).1; omega) | exact (fun y2 hy2 => by rw [hy] at hy2; cases hy2; exact ⟨h27, fun e => h44 (by rw [e])⟩)
                refine T_region ?_
                have S7 := S6.nilrow 23 32
                refine L_y (y_assign rfl) rfl ?_
                refine L_nil ?_
                refine hK15 _ _ ?_
                refine T_seq fun K16 hK16 => ?_
                refine T_region ?_
                refine L_y (y_move rfl) rfl ?_
                refine L_y (y_move rfl) rfl ?_
                refine L_y (y_move rfl) rfl ?_
                refine L_y (y_sliceH Try.underlying44 sz23 rfl rfl inferInstance (by omega)) rfl ?_
                refine L_o (o_app te44 S7 1 rfl rfl rfl ((S7.row 0 rfl).cut (l := 0) (u := j) (Nat.zero_le _) (by omega)) (fun u hu => ids_one _ _ (List.mem_of_mem_drop (List.mem_of_mem_take hu))) rfl (by omega) (by omega) fun A8 c8 w8 S8 => ?_)
                refine L_y (y_assign rfl) rfl ?_
                refine L_nil ?_
                refine hK16 _ _ ?_
                refine T_seq fun K17 hK17 => ?_
                refine T_region ?_
                refine L_y (y_move rfl) rfl ?_
                refine L_y (y_move rfl) rfl ?_
                refine L_y (y_move rfl) rfl ?_
                refine L_y (y_idx Try.underlying44 sz23 rfl rfl (S8.rd hl) (Nt.mk (by omega) : Nt _ (k)) (by omega)) rfl ?_
                refine L_y (y_ldp (f := idf) idf_len Try.underlying23 rfl sz23 rfl (S8.rd hl) (by omega) hx) rfl ?_
                refine L_o (o_bsl (bL x.l) te44 zz23 S8 rfl rfl rfl (by simp [Value.cells, idf, x.h]) (by simp [Value.cells, idf]) rfl rfl rfl fun b9 w9 S9 => ?_)
                refine L_o (o_app te44 S9 1 rfl rfl rfl (by first | exact S9.row 0 rfl | exact S9.row 1 rfl | exact S9.row 2 rfl) (bL_one _) rfl (by omega) (by omega) fun A10 c10 w10 S10 => ?_)
                have S10d := S10.drop (rs' := [_, _]) (.cons_cons _ (.cons_cons _ (.cons _ (.refl _))))
                refine L_y (y_assign rfl) rfl ?_
                refine L_nil ?_
                refine hK17 _ _ ?_
                refine T_region ?_
                refine L_y (y_move rfl) rfl ?_
                refine L_y (y_move rfl) rfl ?_
                refine L_y (y_move rfl) rfl ?_
                refine L_y (y_sliceL Try.underlying44 sz23 rfl rfl inferInstance (by omega)) rfl ?_
                refine L_o (o_app te44 S10d 1 rfl rfl rfl ((S10d.row 0 rfl).cut (l := j) (u := xs.length) (by omega) (Nat.le_refl _)) (fun u hu => ids_one _ _ (List.mem_of_mem_drop (List.mem_of_mem_take hu))) rfl (by omega) (by omega) fun A11 c11 w11 S11 => ?_)
                refine L_y (y_assign rfl) rfl ?_
                refine L_nil ?_
                refine hK7 _ _ ?_
                refine T_region ?_
                refine L_y (y_move rfl) rfl ?_
                refine L_y (y_add rfl rfl (i64w (by omega))) rfl ?_
                refine L_y (y_assign rfl) rfl ?_
                refine L_nil ?_
                have hris2 := ins_ris hris hlow hno
                have hlen : (xs.take j ++ [x] ++ xs.drop j).length = xs.length + 1 := by simp; omega
                have S91 := S11.rowc 1 rfl (n' := (xs.take j ++ [x] ++ xs.drop j).length) (xs' := (xs.take j ++ [x] ++ xs.drop j).flatMap idf) (by rw [hlen]; omega) (ins_flatI xs j _ x (by omega) rfl)
                have S92 := S91.drop (.cons _ (.cons_cons _ (.refl _)))
                refine ⟨k + 1, _, _, xs.take j ++ [x] ++ xs.drop j, by omega, ⟨⟨by omega, by omega, hris2, fun z => by rw [mem_ins, mem_take1 hx, hmem z]⟩, S92⟩, ?_⟩
                exact (Sub.cons rfl (by first | rfl | (rw [hlen]; rfl) | (rw [hlen]; congr 1; omega)) (Sub.cons rfl (by first | rfl | exact congrArg (Value.int _) (by omega)) (Sub.cons rfl rfl (Sub.nil _))))
            ·
              refine DL_gno rfl rfl rfl rfl ?_
              refine DL_gno rfl rfl rfl rfl ?_
              refine DL_gno rfl rfl rfl rfl ?_
              refine DL_gno rfl rfl rfl rfl ?_
              refine DL_gno rfl rfl rfl rfl ?_
              refine DL_gno rfl rfl rfl rfl ?_
              refine DL_gno rfl rfl rfl rfl ?_
              refine DL_gno rfl rfl rfl rfl ?_
              refine DL_gno rfl rfl rfl rfl ?_
              refine DL_y rfl ((by first | exact y_pickT rfl rfl | exact y_pickF rfl rfl)) rfl ?_
              refine DL_nil ?_
              refine hK14 _ _ ?_
              refine T_false rfl ?_
              refine T_skip ?_
              refine hK13 _ _ ?_
              refine T_seq fun K18 hK18 => ?_
              have hcp := (S6.row 0 rfl).cap
              have hno : ∀ y, xs[j]? = some y → lt y x = false ∧ y ≠ x := by first | exact (fun y2 hy2 => by have := (List.getElem?_eq_some_iff.1 hy2).1; omega) | exact (fun y2 hy2 => by rw [hy] at hy2; cases hy2; exact ⟨h27, fun e => h44 (by rw [e])⟩)
              refine T_region ?_
              have S12 := S6.nilrow 23 32
              refine L_y (y_assign rfl) rfl ?_
              refine L_nil ?_
              refine hK18 _ _ ?_
              refine T_seq fun K19 hK19 => ?_
              refine T_region ?_
              refine L_y (y_move rfl) rfl ?_
              refine L_y (y_move rfl) rfl ?_
              refine L_y (y_move rfl) rfl ?_
              refine L_y (y_sliceH Try.underlying44 sz23 rfl rfl inferInstance (by omega)) rfl ?_
              refine L_o (o_app te44 S12 1 rfl rfl rfl ((S12.row 0 rfl).cut (l := 0) (u := j) (Nat.zero_le _) (by omega)) (fun u hu => ids_one _ _ (List.mem_of_mem_drop (List.mem_of_mem_take hu))) rfl (by omega) (by omega) fun A13 c13 w13 S13 => ?_)
              refine L_y (y_assign rfl) rfl ?_
              refine L_nil ?_
              refine hK19 _ _ ?_
              refine T_seq fun K20 hK20 => ?_
              refine T_region ?_
              refine L_y (y_move rfl) rfl ?_
              refine L_y (y_move rfl) rfl ?_
              refine L_y (y_move rfl) rfl ?_
              refine L_y (y_idx Try.underlying44 sz23 rfl rfl (S13.rd hl) (Nt.mk (by omega) : Nt _ (k)) (by omega)) rfl ?_
              refine L_y (y_ldp (f := idf) idf_len Try.underlying23 rfl sz23 rfl (S13.rd hl) (by omega) hx) rfl ?_
              refine L_o (o_bsl (bL x.l) te44 zz23 S13 rfl rfl rfl (by simp [Value.cells, idf, x.h]) (by simp [Value.cells, idf]) rfl rfl rfl fun b14 w14 S14 => ?_)
              refine L_o (o_app te44 S14 1 rfl rfl rfl (by first | exact S14.row 0 rfl | exact S14.row 1 rfl | exact S14.row 2 rfl) (bL_one _) rfl (by omega) (by omega) fun A15 c15 w15 S15 => ?_)
              have S15d := S15.drop (rs' := [_, _]) (.cons_cons _ (.cons_cons _ (.cons _ (.refl _))))
              refine L_y (y_assign rfl) rfl ?_
              refine L_nil ?_
              refine hK20 _ _ ?_
              refine T_region ?_
              refine L_y (y_move rfl) rfl ?_
              refine L_y (y_move rfl) rfl ?_
              refine L_y (y_move rfl) rfl ?_
              refine L_y (y_sliceL Try.underlying44 sz23 rfl rfl inferInstance (by omega)) rfl ?_
              refine L_o (o_app te44 S15d 1 rfl rfl rfl ((S15d.row 0 rfl).cut (l := j) (u := xs.length) (by omega) (Nat.le_refl _)) (fun u hu => ids_one _ _ (List.mem_of_mem_drop (List.mem_of_mem_take hu))) rfl (by omega) (by omega) fun A16 c16 w16 S16 => ?_)
              refine L_y (y_assign rfl) rfl ?_
              refine L_nil ?_
              refine hK7 _ _ ?_
              refine T_region ?_
              refine L_y (y_move rfl) rfl ?_
              refine L_y (y_add rfl rfl (i64w (by omega))) rfl ?_
              refine L_y (y_assign rfl) rfl ?_
              refine L_nil ?_
              have hris2 := ins_ris hris hlow hno
              have hlen : (xs.take j ++ [x] ++ xs.drop j).length = xs.length + 1 := by simp; omega
              have S91 := S16.rowc 1 rfl (n' := (xs.take j ++ [x] ++ xs.drop j).length) (xs' := (xs.take j ++ [x] ++ xs.drop j).flatMap idf) (by rw [hlen]; omega) (ins_flatI xs j _ x (by omega) rfl)
              have S92 := S91.drop (.cons _ (.cons_cons _ (.refl _)))
              refine ⟨k + 1, _, _, xs.take j ++ [x] ++ xs.drop j, by omega, ⟨⟨by omega, by omega, hris2, fun z => by rw [mem_ins, mem_take1 hx, hmem z]⟩, S92⟩, ?_⟩
              exact (Sub.cons rfl (by first | rfl | (rw [hlen]; rfl) | (rw [hlen]; congr 1; omega)) (Sub.cons rfl (by first | rfl | exact congrArg (Value.int _) (by omega)) (Sub.cons rfl rfl (Sub.nil _))))
        ·
          refine HL_gno rfl rfl rfl ?_
          refine HL_gno rfl rfl rfl ?_
          refine HL_gno rfl rfl rfl ?_
          refine HL_gno rfl rfl rfl ?_
          refine HL_gno rfl rfl rfl ?_
          refine HL_gno rfl rfl rfl ?_
          refine HL_gno rfl rfl rfl ?_
          refine HL_gno rfl rfl rfl ?_
          refine HL_nil ?_
          refine hK12 _ ?_
          refine L_gno rfl rfl rfl ?_
          refine L_y ((by first | exact y_pickT rfl rfl | exact y_pickF rfl rfl)) rfl ?_
          refine L_nil ?_
          refine hK11 _ _ ?_
          refine T_false rfl ?_
          refine T_exit ?_
          refine hK9 _ _ ?_
          refine T_seq fun K21 hK21 => ?_
          refine T_seq fun K22 hK22 => ?_
          refine T_drawnL [(0, true), (1, true), (2, true), (3, true), (4, true), (5, true), (6, true), (7, true), (8, true), (9, true), (10, true), (11, true), (12, true), (13, true), (14, true)] hmix (by kernel_rfl) fun w17 l17 => ?_
          have S17 := S3.like l17
          refine DL_y rfl (y_move rfl) rfl ?_
          refine DL_y rfl (y_move rfl) rfl ?_
          refine DL_y rfl (y_len Try.underlying44 rfl) rfl ?_
          refine DL_y rfl (y_lss rfl rfl) rfl ?_
          refine DL_y rfl (y_move rfl) rfl ?_
          refine DL_split 34 rfl (fun h34 => ?_) (fun h34 => ?_)
          ·
            obtain ⟨y, hy⟩ : ∃ y, xs[j]? = some y := ⟨_, List.getElem?_eq_getElem (by omega)⟩
            refine DL_gyes rfl rfl rfl (y_move rfl) rfl ?_
            refine DL_gyes rfl rfl rfl (y_move rfl) rfl ?_
            refine DL_gyes rfl rfl rfl (y_idx Try.underlying44 sz23 rfl rfl (S17.row 0 rfl) (Nt.mk (by omega) : Nt _ (j)) (by omega)) rfl ?_
            refine DL_gyes rfl rfl rfl (y_ldp (f := idf) idf_len Try.underlying23 rfl sz23 rfl (S17.row 0 rfl) (by omega) hy) rfl ?_
            refine DL_gyes rfl rfl rfl (y_move rfl) rfl ?_
            refine DL_gyes rfl rfl rfl (y_move rfl) rfl ?_
            refine DL_gyes rfl rfl rfl (y_idx Try.underlying44 sz23 rfl rfl (S17.rd hl) (Nt.mk (by omega) : Nt _ (k)) (by omega)) rfl ?_
            refine DL_gyes rfl rfl rfl (y_ldp (f := idf) idf_len Try.underlying23 rfl sz23 rfl (S17.rd hl) (by omega) hx) rfl ?_
            refine DL_gyes rfl rfl rfl (y_eqB Try.underlying23 Try.underlying5 sz5 (by kernel_rfl) rfl rfl y.h x.h) rfl ?_
            refine DL_y rfl ((by first | exact y_pickT rfl rfl | exact y_pickF rfl rfl)) rfl ?_
            refine DL_nil ?_
            refine hK22 _ _ ?_
            refine T_cond rfl (fun h44 => ?_) (fun h44 => ?_)
            ·
              refine T_exit ?_
              refine hK7 _ _ ?_
              refine T_region ?_
              refine L_y (y_move rfl) rfl ?_
              refine L_y (y_add rfl rfl (i64w (by omega))) rfl ?_
              refine L_y (y_assign rfl) rfl ?_
              refine L_nil ?_
              refine ⟨k + 1, A1, c1, xs, by omega, ⟨⟨by omega, by omega, hris, fun z => by rw [mem_take1 hx, ← hmem z]; exact ⟨.inl, fun h => h.elim id fun e => by rw [e, ← Id.ext h44]; exact List.mem_of_getElem? hy⟩⟩, S17⟩, ?_⟩
              exact (Sub.cons rfl (by first | rfl | (rw [hlen]; rfl) | (rw [hlen]; congr 1; omega)) (Sub.cons rfl (by first | rfl | exact congrArg (Value.int _) (by omega)) (Sub.cons rfl rfl (Sub.nil _))))
            ·
              refine T_skip ?_
              refine hK21 _ _ ?_
              refine T_seq fun K23 hK23 => ?_
              have hcp := (S17.row 0 rfl).cap
              have hno : ∀ y, xs[j]? = some y → lt y x = false ∧ y ≠ x := by first | exact (fun y2 hy2 => by have := (List.getElem?_eq_some_iff.1 hy2).1; omega) | exact (fun y2 hy2 => by rw [hy] at hy2; cases hy2; exact ⟨h27, fun e => h44 (by rw [e])⟩)
              refine T_region ?_
              have S18 := S17.nilrow 23 32
              refine L_y (y_assign rfl) rfl ?_
              refine L_nil ?_
              refine hK23 _ _ ?_
              refine T_seq fun K24 hK24 => ?_
              refine T_region ?_
              refine L_y (y_move rfl) rfl ?_
              refine L_y (y_move rfl) rfl ?_
              refine L_y (y_move rfl) rfl ?_
              refine L_y (y_sliceH Try.underlying44 sz23 rfl rfl inferInstance (by omega)) rfl ?_
              refine L_o (o_app te44 S18 1 rfl rfl rfl ((S18.row 0 rfl).cut (l := 0) (u := j) (Nat.zero_le _) (by omega)) (fun u hu => ids_one _ _ (List.mem_of_mem_drop (List.mem_of_mem_take hu))) rfl (by omega) (by omega) fun A19 c19 w19 S19 => ?_)
              refine L_y (y_assign rfl) rfl ?_
              refine L_nil ?_
              refine hK24 _ _ ?_
              refine T_seq fun K25 hK25 => ?_
              refine T_region ?_
              refine L_y (y_move rfl) rfl ?_
              refine L_y (y_move rfl) rfl ?_
              refine L_y (y_move rfl) rfl ?_
              refine L_y (y_idx Try.underlying44 sz23 rfl rfl (S19.rd hl) (Nt.mk (by omega) : Nt _ (k)) (by omega)) rfl ?_
              refine L_y (y_ldp (f := idf) idf_len Try.underlying23 rfl sz23 rfl (S19.rd hl) (by omega) hx) rfl ?_
              refine L_o (o_bsl (bL x.l) te44 zz23 S19 rfl rfl rfl (by simp [Value.cells, idf, x.h]) (by simp [Value.cells, idf]) rfl rfl rfl fun b20 w20 S20 => ?_)
              refine L_o (o_app te44 S20 1 rfl rfl rfl (by first | exact S20.row 0 rfl | exact S20.row 1 rfl | exact S20.row 2 rfl) (bL_one _) rfl (by omega) (by omega) fun A21 c21 w21 S21 => ?_)
              have S21d := S21.drop (rs' := [_, _]) (.cons_cons _ (.cons_cons _ (.cons _ (.refl _))))
              refine L_y (y_assign rfl) rfl ?_
              refine L_nil ?_
              refine hK25 _ _ ?_
              refine T_region ?_
              refine L_y (y_move rfl) rfl ?_
              refine L_y (y_move rfl) rfl ?_
              refine L_y (y_move rfl) rfl ?_
              refine L_y (y_sliceL Try.underlying44 sz23 rfl rfl inferInstance (by omega)) rfl ?_
              refine L_o (o_app te44 S21d 1 rfl rfl rfl ((S21d.row 0 rfl).cut (l := j) (u := xs.length) (by omega) (Nat.le_refl _)) (fun u hu => ids_one _ _ (List.mem_of_mem_drop (List.mem_of_mem_take hu))) rfl (by omega) (by omega) fun A22 c22 w22 S22 => ?_)
              refine L_y (y_assign rfl) rfl ?_
              refine L_nil ?_
              refine hK7 _ _ ?_
              refine T_region ?_
              refine L_y (y_move rfl) rfl ?_
              refine L_y (y_add rfl rfl (i64w (by omega))) rfl ?_
              refine L_y (y_assign rfl) rfl ?_
              refine L_nil ?_
              have hris2 := ins_ris hris hlow hno
              have hlen : (xs.take j ++ [x] ++ xs.drop j).length = xs.length + 1 := by simp; omega
              have S91 := S22.rowc 1 rfl (n' := (xs.take j ++ [x] ++ xs.drop j).length) (xs' := (xs.take j ++ [x] ++ xs.drop j).flatMap idf) (by rw [hlen]; omega) (ins_flatI xs j _ x (by omega) rfl)
              have S92 := S91.drop (.cons _ (.cons_cons _ (.refl _)))
              refine ⟨k + 1, _, _, xs.take j ++ [x] ++ xs.drop j, by omega, ⟨⟨by omega, by omega, hris2, fun z => by rw [mem_ins, mem_take1 hx, hmem z]⟩, S92⟩, ?_⟩
              exact (Sub.cons rfl (by first | rfl | (rw [hlen]; rfl) | (rw [hlen]; congr 1; omega)) (Sub.cons rfl (by first | rfl | exact congrArg (Value.int _) (by omega)) (Sub.cons rfl rfl (Sub.nil _))))
          ·
            refine DL_gno rfl rfl rfl rfl ?_
            refine DL_gno rfl rfl rfl rfl ?_
            refine DL_gno rfl rfl rfl rfl ?_
            refine DL_gno rfl rfl rfl rfl ?_
            refine DL_gno rfl rfl rfl rfl ?_
            refine DL_gno rfl rfl rfl rfl ?_
            refine DL_gno rfl rfl rfl rfl ?_
            refine DL_gno rfl rfl rfl rfl ?_
            refine DL_gno rfl rfl rfl rfl ?_
            refine DL_y rfl ((by first | exact y_pickT rfl rfl | exact y_pickF rfl rfl)) rfl ?_
            refine DL_nil ?_
            refine hK22 _ _ ?_
            refine T_false rfl ?_
            refine T_skip ?_
            refine hK21 _ _ ?_
            refine T_seq fun K26 hK26 => ?_
            have hcp := (S17.row 0 rfl).cap
            have hno : ∀ y, xs[j]? = some y → lt y x = false ∧ y ≠ x := by first | exact (fun y2 hy2 => by have := (List.getElem?_eq_some_iff.1 hy2).1; omega) | exact (fun y2 hy2 => by rw [hy] at hy2; cases hy2; exact ⟨h27, fun e => h44 (by rw [e])⟩)
            refine T_region ?_
            have S23 := S17.nilrow 23 32
            refine L_y (y_assign rfl) rfl ?_
            refine L_nil ?_
            refine hK26 _ _ ?_
            refine T_seq fun K27 hK27 => ?_
            refine T_region ?_
            refine L_y (y_move rfl) rfl ?_
            refine L_y (y_move rfl) rfl ?_
            refine L_y (y_move rfl) rfl ?_
            refine L_y (y_sliceH Try.underlying44 sz23 rfl rfl inferInstance (by omega)) rfl ?_
            refine L_o (o_app te44 S23 1 rfl rfl rfl ((S23.row 0 rfl).cut (l := 0) (u := j) (Nat.zero_le _) (by omega)) (fun u hu => ids_one _ _ (List.mem_of_mem_drop (List.mem_of_mem_take hu))) rfl (by omega) (by omega) fun A24 c24 w24 S24 => ?_)
            refine L_y (y_assign rfl) rfl ?_
            refine L_nil ?_
            refine hK27 _ _ ?_
            refine T_seq fun K28 hK28 => ?_
            refine T_region ?_
            refine L_y (y_move rfl) rfl ?_
            refine L_y (y_move rfl) rfl ?_
            refine L_y (y_move rfl) rfl ?_
            refine L_y (y_idx Try.underlying44 sz23 rfl rfl (S24.rd hl) (Nt.mk (by omega) : Nt _ (k)) (by omega)) rfl ?_
            refine L_y (y_ldp (f := idf) idf_len Try.underlying23 rfl sz23 rfl (S24.rd hl) (by omega) hx) rfl ?_
            refine L_o (o_bsl (bL x.l) te44 zz23 S24 rfl rfl rfl (by simp [Value.cells, idf, x.h]) (by simp [Value.cells, idf]) rfl rfl rfl fun b25 w25 S25 => ?_)
            refine L_o (o_app te44 S25 1 rfl rfl rfl (by first | exact S25.row 0 rfl | exact S25.row 1 rfl | exact S25.row 2 rfl) (bL_one _) rfl (by omega) (by omega) fun A26 c26 w26 S26 => ?_)
            have S26d := S26.drop (rs' := [_, _]) (.cons_cons _ (.cons_cons _ (.cons _ (.refl _))))
            refine L_y (y_assign rfl) rfl ?_
            refine L_nil ?_
            refine hK28 _ _ ?_
            refine T_region ?_
            refine L_y (y_move rfl) rfl ?_
            refine L_y (y_move rfl) rfl ?_
            refine L_y (y_move rfl) rfl ?_
            refine L_y (y_sliceL Try.underlying44 sz23 rfl rfl inferInstance (by omega)) rfl ?_
            refine L_o (o_app te44 S26d 1 rfl rfl rfl ((S26d.row 0 rfl).cut (l := j) (u := xs.length) (by omega) (Nat.le_refl _)) (fun u hu => ids_one _ _ (List.mem_of_mem_drop (List.mem_of_mem_take hu))) rfl (by omega) (by omega) fun A27 c27 w27 S27 => ?_)
            refine L_y (y_assign rfl) rfl ?_
            refine L_nil ?_
            refine hK7 _ _ ?_
            refine T_region ?_
            refine L_y (y_move rfl) rfl ?_
            refine L_y (y_add rfl rfl (i64w (by omega))) rfl ?_
            refine L_y (y_assign rfl) rfl ?_
            refine L_nil ?_
            have hris2 := ins_ris hris hlow hno
            have hlen : (xs.take j ++ [x] ++ xs.drop j).length = xs.length + 1 := by simp; omega
            have S91 := S27.rowc 1 rfl (n' := (xs.take j ++ [x] ++ xs.drop j).length) (xs' := (xs.take j ++ [x] ++ xs.drop j).flatMap idf) (by rw [hlen]; omega) (ins_flatI xs j _ x (by omega) rfl)
            have S92 := S91.drop (.cons _ (.cons_cons _ (.refl _)))
            refine ⟨k + 1, _, _, xs.take j ++ [x] ++ xs.drop j, by omega, ⟨⟨by omega, by omega, hris2, fun z => by rw [mem_ins, mem_take1 hx, hmem z]⟩, S92⟩, ?_⟩
            exact (Sub.cons rfl (by first | rfl | (rw [hlen]; rfl) | (rw [hlen]; congr 1; omega)) (Sub.cons rfl (by first | rfl | exact congrArg (Value.int _) (by omega)) (Sub.cons rfl rfl (Sub.nil _))))
    ·
      refine T_exit ?_
      refine hK3 _ _ ?_
      refine T_seq fun K29 hK29 => ?_
      refine T_region ?_
      refine L_y (y_move rfl) rfl ?_
      refine L_y (y_assign rfl) rfl ?_
      refine L_nil ?_
      refine hK29 _ _ ?_
      refine T_ret ?_
      repeat (first | with_reducible refine up_then ?_ | with_reducible refine up_in ?_)
      refine ret1 rfl rfl ?_
      exact ⟨_, rfl, S1.like0, _, _, _, xs, rfl, S1.own 0 rfl, hris, fun z => by rw [hmem z, List.take_of_length_le (by omega)]⟩


set_option maxRecDepth 100000 in
theorem pclone (A : Option Addr) (n c : Nat) (l : List Id) (w0 : World) (hl : Rs w0 32 A n c (l.flatMap idf)) (hmx : n ≤ 4096) :
    Calls Try.prog 41 #[.slice A n c] w0 fun e w' => ∃ u, e = .returned u ∧ Like w0 w' ∧ ∃ A' c', u = .slice A' n c' ∧ w'.ownsRow w0.heap.size 23 32 (.slice A' n c') n (l.flatMap idf) := by
  refine enter1 (env := [(0, .slice A n c)]) [.slice A n c] Try.func41 rfl Try.ntmps41 rfl rfl ?_
  have hzero := rs_nil hl; have hl0 := rs_nil2 hl; have hn := ids_n hl; have hcap := hl.cap; have hmax := hl.max; have S0 := St.start w0 noM
  refine T_seq fun K1 hK1 => ?_
  refine T_region ?_
  refine L_y (y_assign rfl) rfl ?_
  refine L_nil ?_
  refine hK1 _ _ ?_
  refine T_seq fun K2 hK2 => ?_
  refine T_seq fun K3 hK3 => ?_
  refine T_region ?_
  refine L_y (y_move rfl) rfl ?_
  refine L_y (y_seqn Try.underlying44 rfl) rfl ?_
  refine L_nil ?_
  refine hK3 _ _ ?_
  refine T_condB rfl (fun h4 => ?_) (fun h4 => ?_)
  ·
    refine T_seq fun K4 hK4 => ?_
    refine T_region ?_
    refine L_y (y_assign rfl) rfl ?_
    refine L_nil ?_
    refine hK4 _ _ ?_
    refine T_ret ?_
    repeat (first | with_reducible refine up_then ?_ | with_reducible refine up_in ?_)
    refine ret1 rfl rfl ?_
    first | exact ⟨_, rfl, S0.like0, _, _, by rw [Nat.zero_add], by have h9 := S0.own 0 rfl; rw [Nat.zero_add] at h9; exact h9⟩ | exact ⟨_, rfl, S0.like0, none, 0, by rw [hzero (by simpa using h4)], by rw [hzero (by simpa using h4), hl0 (by simpa using h4)]; exact World.ownsRow_nil _ _ _ _⟩
  ·
    refine T_skip ?_
    refine hK2 _ _ ?_
    refine T_seq fun K5 hK5 => ?_
    refine T_region ?_
    refine L_o (o_bsl0 te44 S0 rfl fun b1 w1 l1 S1 => ?_)
    refine L_y (y_move rfl) rfl ?_
    refine L_o (o_app te44 S1 0 rfl rfl rfl (S1.rd hl) (ids_one _) rfl (by omega) (by omega) fun A2 c2 w2 S2 => ?_)
    refine L_y (y_assign rfl) rfl ?_
    refine L_nil ?_
    refine hK5 _ _ ?_
    refine T_ret ?_
    repeat (first | with_reducible refine up_then ?_ | with_reducible refine up_in ?_)
    refine ret1 rfl rfl ?_
    first | exact ⟨_, rfl, S2.like0, _, _, by rw [Nat.zero_add], by have h9 := S2.own 0 rfl; rw [Nat.zero_add] at h9; exact h9⟩ | exact ⟨_, rfl, S2.like0, none, 0, by rw [hzero (by simpa using h4)], by rw [hzero (by simpa using h4), hl0 (by simpa using h4)]; exact World.ownsRow_nil _ _ _ _⟩


set_option maxRecDepth 100000 in
theorem pclip (A : Option Addr) (n c : Nat) (l : List Id) (w0 : World) (hl : Rs w0 32 A n c (l.flatMap idf)) :
    Calls Try.prog 43 #[.slice A n c] w0 fun e w' => ∃ u, e = .returned u ∧ Like w0 w' ∧ u = .slice A n n := by
  refine enter1 (env := [(0, .slice A n c)]) [.slice A n c] Try.func43 rfl Try.ntmps43 rfl rfl ?_
  have hn := ids_n hl; have hcap := hl.cap; have hmax := hl.max; have S0 := St.start w0 noM
  refine T_seq fun K1 hK1 => ?_
  refine T_region ?_
  refine L_y (y_assign rfl) rfl ?_
  refine L_nil ?_
  refine hK1 _ _ ?_
  refine T_seq fun K2 hK2 => ?_
  refine T_region ?_
  refine L_y (y_move rfl) rfl ?_
  refine L_y (y_move rfl) rfl ?_
  refine L_y (y_len Try.underlying44 rfl) rfl ?_
  refine L_y (y_move rfl) rfl ?_
  refine L_y (y_len Try.underlying44 rfl) rfl ?_
  refine L_y (y_sliceHM Try.underlying44 sz23 rfl rfl rfl rfl rfl (Nat.le_refl _) (by omega)) rfl ?_
  refine L_y (y_assign rfl) rfl ?_
  refine L_nil ?_
  refine hK2 _ _ ?_
  refine T_ret ?_
  repeat (first | with_reducible refine up_then ?_ | with_reducible refine up_in ?_)
  refine ret1 rfl rfl ?_
  exact ⟨_, rfl, S0.like0, by rw [cutA_z]; rfl⟩


set_option maxRecDepth 100000 in
theorem psorted (A : Option Addr) (n c : Nat) (l : List Id) (w0 : World) (hl : Rs w0 32 A n c (l.flatMap idf)) (h60 : n ≤ 4096) :
    Calls Try.prog 27 #[.slice A n c] w0 fun e w' => ∃ u, e = .returned u ∧ Like w0 w' ∧ ∃ A' m c' s, u = .slice A' m c' ∧ Rs w' 32 A' m c' (s.flatMap idf) ∧ ris s = true ∧ ∀ z, z ∈ s ↔ z ∈ l := by
  refine enter1 (env := [(0, .slice A n c)]) [.slice A n c] Try.func27 rfl Try.ntmps27 rfl rfl ?_
  have hn := ids_n hl; have hcap := hl.cap; have hmax := hl.max; have S0 := St.start w0 noM
  refine T_seq fun K1 hK1 => ?_
  refine T_region ?_
  refine L_y (y_assign rfl) rfl ?_
  refine L_nil ?_
  refine hK1 _ _ ?_
  refine T_seq fun K2 hK2 => ?_
  refine T_region ?_
  refine L_y (y_move rfl) rfl ?_
  refine L_o (o_call Try.func41 rfl rfl (pclone A n c l w0 (S0.rd hl) h60) rfl rfl ?_)
  rintro e1 w1 ⟨v1, rfl, l1, A5, c5, rfl, O1⟩
  refine ⟨_, rfl, ?_⟩
  have S1 := S0.adopt l1 O1
  refine L_y (y_assign rfl) rfl ?_
  refine L_nil ?_
  refine hK2 _ _ ?_
  refine T_seq fun K3 hK3 => ?_
  refine T_region ?_
  refine L_y (y_move rfl) rfl ?_
  refine L_o (o_call Try.func42 rfl rfl (sortIA A5 n c5 l w1 hn.symm (S1.get 0 rfl) (by omega)) rfl rfl ?_)
  rintro e2 w2 ⟨v2, rfl, zs, hp, hso, T2⟩
  refine ⟨_, rfl, ?_⟩
  have S2 := S1.turn 0 rfl T2
  have hzl : zs.length = n := hp.length_eq.trans hn.symm
  subst hzl
  refine L_nil ?_
  refine hK3 _ _ ?_
  refine T_seq fun K4 hK4 => ?_
  refine T_region ?_
  refine L_y (y_move rfl) rfl ?_
  refine L_o (o_call Try.func44 rfl rfl (pcompact A5 c5 zs w2 (S2.get 0 rfl) (WS.of hso)) rfl rfl ?_)
  rintro e3 w3 ⟨v3, rfl, ys, rfl, hys, hym, T3⟩
  refine ⟨_, rfl, ?_⟩
  have S3 := S2.turn 0 rfl T3
  refine L_o (o_call Try.func43 rfl rfl (pclip A5 ys.length c5 ys w3 (S3.row 0 rfl)) rfl rfl ?_)
  rintro e4 w4 ⟨v4, rfl, l4, rfl⟩
  refine ⟨_, rfl, ?_⟩
  have S4 := S3.like l4
  refine L_y (y_assign rfl) rfl ?_
  refine L_nil ?_
  refine hK4 _ _ ?_
  refine T_ret ?_
  repeat (first | with_reducible refine up_then ?_ | with_reducible refine up_in ?_)
  refine ret1 rfl rfl ?_
  have hr9 := S4.row 0 rfl
  exact ⟨_, rfl, S4.like0, _, _, _, ys, rfl, ⟨hr9.rd, Nat.le_refl _, Nat.le_trans hr9.cap hr9.max⟩, hys, fun z => by rw [hym z, hp.mem_iff]⟩
end Go.Proofs.Ytblbcmkhgjlpcaa
