/-
  The Writer; the document: Var, Text.
-/
import Derived.Test.YtpcgldkllnkaeaaU
namespace Go.Proofs.Ytpcgldkllnkaeaa
open Go.RowKit Zk Zx
set_option linter.unusedVariables false
set_option linter.unusedSimpArgs false

/-- A Writer at block g that has laid l. -/
def wt (g : Nat) (A : Option Addr) (n c : Nat) (l : List UInt8) : Res := both (blk g 93 #[.slice A n c]) (row 5 1 A n c (bL l))
theorem wt_apart {w : World} {g n c : Nat} {A : Option Addr} {l : List UInt8} (h : (wt g A n c l).holds w) : ∀ i, (blk g 93 #[.slice A n c]).dom i → ¬ (row 5 1 A n c (bL l)).dom i := fun i hi hr => by
  have hi' : i = g := hi
  subst hi'
  exact own_blk_ne (e := 5) h.2 h.1 (by decide) hr
theorem wt_lt {w : World} {g n c : Nat} {A : Option Addr} {l : List UInt8} (h : (wt g A n c l).holds w) : ∀ i, (wt g A n c l).dom i → i < w.heap.size := fun i hi => by
  rcases hi with hi | hi
  · have hi' : i = g := hi
    subst hi'
    exact Blk.lt h.1
  · exact (World.ownsRow.lt h.2 i hi).2
theorem wt_len {w : World} {g n c : Nat} {A : Option Addr} {l : List UInt8} (h : (wt g A n c l).holds w) : l.length = n := by
  have := h.2.1
  simpa using this
/-- From w to w' the Writer at g, which had laid l, has laid m. -/
def Laid (w w' : World) (g : Nat) (A : Option Addr) (n c : Nat) (l m : List UInt8) : Prop := ∃ A' n' c', Turned w w' (wt g A n c l) (wt g A' n' c' m)
theorem Laid.of {w w' : World} {g n c n' c' : Nat} {A A' : Option Addr} {l m : List UInt8} {X : Array Value} {ys : List Value} (h : Turned w w' (wt g A n c l) (both (blk g 93 X) (row 5 1 A' n' c' ys))) (hX : X = #[.slice A' n' c']) (hy : ys = bL m) : Laid w w' g A n c l m := by
  subst hX
  subst hy
  exact ⟨A', n', c', h⟩
theorem Laid.refl {w : World} {g n c : Nat} {A : Option Addr} {l : List UInt8} (h : (wt g A n c l).holds w) : Laid w w g A n c l l := ⟨A, n, c, Turned.refl h⟩
/-- With the length. -/
theorem Laid.same {w w' : World} {g n c : Nat} {A : Option Addr} {l m : List UInt8} (h : Laid w w' g A n c l m) : ∃ A' c', Turned w w' (wt g A n c l) (wt g A' m.length c' m) := by
  obtain ⟨A', n', c', h⟩ := h
  have := wt_len h.holds
  subst this
  exact ⟨A', c', h⟩


set_option maxRecDepth 100000 in
theorem wbyte (g : Nat) (A : Option Addr) (n c : Nat) (l : List UInt8) (x : UInt8) (w0 : World) (hw : (wt g A n c l).holds w0) (hn : l.length ≤ 70368744177664) :
    Calls Try.prog 31 #[.pointer (some ⟨g, 0, none⟩), .int .u8 (x.toNat : Int)] w0 fun e w' => ∃ u, e = .returned u ∧ Laid w0 w' g A n c l (l ++ [x]) := by
  refine enter1 (env := [(0, .pointer (some ⟨g, 0, none⟩)), (1, .int .u8 (x.toNat : Int))]) [.pointer (some ⟨g, 0, none⟩), .int .u8 (x.toNat : Int)] Try.func31 rfl Try.ntmps31 rfl rfl ?_
  have hln := wt_len hw; have S0 := St.borrow2 (blk g 93 #[.slice A n c]) (row 5 1 A n c (bL l)) hw.1 hw.2 (wt_lt hw) (wt_apart hw)
  refine T_seq fun K1 hK1 => ?_
  refine T_region ?_
  refine L_y (y_move rfl) rfl ?_
  refine L_y (y_pneqn Try.underlying62 rfl) rfl ?_
  refine L_nil ?_
  refine hK1 _ _ ?_
  refine T_true rfl ?_
  refine T_region ?_
  refine L_y (y_move rfl) rfl ?_
  refine L_y (y_move rfl) rfl ?_
  refine L_y (y_nilp rfl) rfl ?_
  refine L_y (y_fieldA 0 Try.underlying93 rfl sz22 rfl rfl rfl) rfl ?_
  refine L_y (y_ldc Try.underlying22 rfl rfl (((S0.blk 0 rfl).cell _).trans (show (#[Value.slice A n c] : Array Value)[0]? = some (Value.slice A n c) from rfl))) rfl ?_
  refine L_y (y_move rfl) rfl ?_
  refine L_o (o_bsl [_] te22 zz5 S0 rfl rfl rfl rfl rfl rfl rfl rfl fun b1 w1 S1 => ?_)
  refine L_o (o_app te22 S1 1 rfl rfl rfl (by first | exact S1.row 1 rfl | exact S1.row 2 rfl) (by first | exact bL_one _ | exact iL_one _ | (intro u hu; simp at hu; subst hu; rfl) | (simp; done) | (simp [Value.oneCell']; done)) rfl (by omega) (by omega) fun A2 c2 w2 S2 => ?_)
  have S2d := S2.drop (rs' := [_, _]) (.cons_cons _ (.cons_cons _ (.cons _ (.refl _))))
  refine L_y (y_nilp rfl) rfl ?_
  refine L_y (y_fieldA 0 Try.underlying93 rfl sz22 rfl rfl rfl) rfl ?_
  refine L_o (o_st1 S2d 0 rfl rfl rfl rfl sz22 (by simp; done) fun w3 S3 => ?_)
  refine L_nil ?_
  first | refine end0 (fn := Try.f31) rfl ?_ | (simp only [thenQ, inB, if_true]; refine end0 (fn := Try.f31) rfl ?_)
  exact ⟨_, rfl, Laid.of (S3.turned2 0 1 rfl rfl) rfl (by simp [bL, bV])⟩


set_option maxRecDepth 100000 in
theorem wraw (g : Nat) (A : Option Addr) (n c : Nat) (l : List UInt8) (B : Option Addr) (m d : Nat) (q : List UInt8) (w0 : World) (hw : (wt g A n c l).holds w0) (hp : Rs w0 1 B m d (bL q)) (hn : l.length + m ≤ 70368744177664) :
    Calls Try.prog 52 #[.pointer (some ⟨g, 0, none⟩), .slice B m d] w0 fun e w' => ∃ u, e = .returned u ∧ Laid w0 w' g A n c l (l ++ q) := by
  refine enter1 (env := [(0, .pointer (some ⟨g, 0, none⟩)), (1, .slice B m d)]) [.pointer (some ⟨g, 0, none⟩), .slice B m d] Try.func52 rfl Try.ntmps52 rfl rfl ?_
  have hln := wt_len hw; have S0 := St.borrow2 (blk g 93 #[.slice A n c]) (row 5 1 A n c (bL l)) hw.1 hw.2 (wt_lt hw) (wt_apart hw)
  refine T_seq fun K1 hK1 => ?_
  refine T_region ?_
  refine L_y (y_move rfl) rfl ?_
  refine L_y (y_pneqn Try.underlying62 rfl) rfl ?_
  refine L_nil ?_
  refine hK1 _ _ ?_
  refine T_true rfl ?_
  refine T_region ?_
  refine L_y (y_move rfl) rfl ?_
  refine L_y (y_move rfl) rfl ?_
  refine L_y (y_nilp rfl) rfl ?_
  refine L_y (y_fieldA 0 Try.underlying93 rfl sz22 rfl rfl rfl) rfl ?_
  refine L_y (y_ldc Try.underlying22 rfl rfl (((S0.blk 0 rfl).cell _).trans (show (#[Value.slice A n c] : Array Value)[0]? = some (Value.slice A n c) from rfl))) rfl ?_
  refine L_y (y_move rfl) rfl ?_
  refine L_o (o_app te22 S0 1 rfl rfl rfl (hp) (bL_one _) rfl (by omega) (by omega) fun A1 c1 w1 S1 => ?_)
  refine L_y (y_nilp rfl) rfl ?_
  refine L_y (y_fieldA 0 Try.underlying93 rfl sz22 rfl rfl rfl) rfl ?_
  refine L_o (o_st1 S1 0 rfl rfl rfl rfl sz22 (by simp; done) fun w2 S2 => ?_)
  refine L_nil ?_
  first | refine end0 (fn := Try.f52) rfl ?_ | (simp only [thenQ, inB, if_true]; refine end0 (fn := Try.f52) rfl ?_)
  have hE := S2.turned2 0 1 rfl rfl
  exact ⟨_, rfl, Laid.of hE rfl (by simp [bL])⟩


set_option maxRecDepth 100000 in
theorem wnew  (w0 : World)  :
    Calls Try.prog 29 #[] w0 fun e w' => ∃ u, e = .returned u ∧ Like w0 w' ∧ ∃ b, u = .pointer (some ⟨b, 0, none⟩) ∧ w0.heap.size ≤ b ∧ (wt b none 0 0 []).holds w' := by
  refine enter1 (env := []) [] Try.func29 rfl Try.ntmps29 rfl rfl ?_
  have S0 := St.start w0 noM
  refine T_seq fun K1 hK1 => ?_
  refine T_region ?_
  refine L_y (y_assign rfl) rfl ?_
  refine L_nil ?_
  refine hK1 _ _ ?_
  refine T_seq fun K2 hK2 => ?_
  refine T_region ?_
  refine L_y (y_build rfl (show _ = some #[Value.slice none 0 0] by kernel_rfl)) rfl ?_
  refine L_o (o_box rfl S0 rfl fun b1 w1 hb1 S1 => ?_)
  refine L_y (y_assign rfl) rfl ?_
  refine L_nil ?_
  refine hK2 _ _ ?_
  refine T_ret ?_
  repeat (first | with_reducible refine up_then ?_ | with_reducible refine up_in ?_)
  refine ret1 rfl rfl ?_
  exact ⟨_, rfl, S1.like0, b1, rfl, hb1, (S1.get 0 rfl), ⟨by simp [bL], .inl ⟨rfl, rfl⟩⟩⟩


/-- The last bytes of a number, the highest first. -/
def tl (v : Nat) : Nat → List UInt8
  | 0 => []
  | j + 1 => UInt8.ofNat (v / 256 ^ j % 256) :: tl v j
theorem length_tl (v : Nat) : ∀ j, (tl v j).length = j
  | 0 => rfl
  | j + 1 => by simp [tl, length_tl v j]
theorem tl_get (v : Nat) : ∀ (j i : Nat), i < j → (tl v j)[i]? = some (UInt8.ofNat (v / 256 ^ (j - 1 - i) % 256))
  | j + 1, 0, _ => by simp [tl]
  | j + 1, i + 1, h => by
    simp only [tl, List.getElem?_cons_succ]
    rw [tl_get v j i (by omega), show j + 1 - 1 - (i + 1) = j - 1 - i by omega]
theorem tl_take (v j i : Nat) (h : i < j) : (tl v j).take (i + 1) = (tl v j).take i ++ [UInt8.ofNat (v / 256 ^ (j - 1 - i) % 256)] := by
  rw [List.take_add_one, tl_get v j i h]
  rfl
theorem shr24 (x k : Nat) (h : k < 4) : Int.fdiv (x : Int) (2 ^ (min ((24 : Int) - 8 * (k : Int)).toNat IntKind.u32.bits)) = ((x / 256 ^ (4 - 1 - k) : Nat) : Int) := by
  have e1 : min ((24 : Int) - 8 * (k : Int)).toNat IntKind.u32.bits = 8 * (4 - 1 - k) := by simp only [IntKind.bits]; omega
  rw [e1, Int.fdiv_eq_ediv_of_nonneg _ (Int.pow_nonneg (by omega)), Int.natCast_ediv, Int.natCast_pow, Int.pow_mul]
  rfl
theorem byteOf (y : Nat) : IntKind.u8.wrap (y : Int) = ((UInt8.ofNat (y % 256)).toNat : Int) := by
  rw [IntKind.wrap_u8, UInt8.toNat_ofNat']
  omega


theorem shr32 (x : Nat) : Int.fdiv (x : Int) (2 ^ (min (32 : Int).toNat IntKind.u64.bits)) = ((x / 4294967296 : Nat) : Int) := by
  have e1 : min (32 : Int).toNat IntKind.u64.bits = 32 := by decide
  rw [e1, Int.fdiv_eq_ediv_of_nonneg _ (Int.pow_nonneg (by omega)), Int.natCast_ediv]
  rfl
theorem w32 (y : Nat) : IntKind.u32.wrap (y : Int) = ((y % 4294967296 : Nat) : Int) := by
  rw [IntKind.wrap_u32]
  omega
theorem tl_mod (v : Nat) : tl (v % 4294967296) 4 = tl v 4 := by
  simp only [tl]
  rw [show v % 4294967296 / 256 ^ 3 % 256 = v / 256 ^ 3 % 256 by omega, show v % 4294967296 / 256 ^ 2 % 256 = v / 256 ^ 2 % 256 by omega, show v % 4294967296 / 256 ^ 1 % 256 = v / 256 ^ 1 % 256 by omega, show v % 4294967296 / 256 ^ 0 % 256 = v / 256 ^ 0 % 256 by omega]
theorem tl_eight (v : Nat) : tl v 8 = tl (v / 4294967296 % 4294967296) 4 ++ tl (v % 4294967296) 4 := by
  rw [tl_mod, tl_mod]
  simp only [tl, List.cons_append, List.nil_append]
  rw [show v / 4294967296 / 256 ^ 3 = v / 256 ^ 7 by omega, show v / 4294967296 / 256 ^ 2 = v / 256 ^ 6 by omega, show v / 4294967296 / 256 ^ 1 = v / 256 ^ 5 by omega, show v / 4294967296 / 256 ^ 0 = v / 256 ^ 4 by omega]


/-- A number by sevens, the lowest first. -/
def vr (x : Nat) : List UInt8 := if h : 128 ≤ x then UInt8.ofNat (x % 128 + 128) :: vr (x / 128) else [UInt8.ofNat x]
termination_by x
decreasing_by omega
theorem vr_big (x : Nat) (h : 128 ≤ x) : vr x = UInt8.ofNat (x % 128 + 128) :: vr (x / 128) := by rw [vr, dif_pos h]
theorem vr_low (x : Nat) (h : x < 128) : vr x = [UInt8.ofNat x] := by rw [vr, dif_neg (by omega)]
set_option maxRecDepth 100000 in
theorem orBits : ∀ m : Fin 256, bits .or .u8 (m.val : Int) 128 = ((UInt8.ofNat (m.val % 128 + 128)).toNat : Int) := by decide
theorem shr7 (x : Nat) : Int.fdiv (x : Int) (2 ^ (min (7 : Int).toNat IntKind.u64.bits)) = ((x / 128 : Nat) : Int) := by
  have e1 : min (7 : Int).toNat IntKind.u64.bits = 7 := by decide
  rw [e1, Int.fdiv_eq_ediv_of_nonneg _ (Int.pow_nonneg (by omega)), Int.natCast_ediv]
  rfl


theorem orB (x : Nat) : bits .or .u8 ((x % 256 : Nat) : Int) 128 = ((UInt8.ofNat (x % 128 + 128)).toNat : Int) := by
  have h := orBits ⟨x % 256, by omega⟩
  rw [show (⟨x % 256, by omega⟩ : Fin 256).val = x % 256 from rfl] at h
  rw [h, show x % 256 % 128 = x % 128 by omega]
theorem w8 (y : Nat) : IntKind.u8.wrap (y : Int) = ((y % 256 : Nat) : Int) := by
  rw [IntKind.wrap_u8]
  omega
theorem w8low (y : Nat) (h : y < 128) : IntKind.u8.wrap (y : Int) = ((UInt8.ofNat y).toNat : Int) := by
  rw [IntKind.wrap_u8, UInt8.toNat_ofNat']
  omega
theorem vr_len (x : Nat) : ∀ k, x < 128 ^ (k + 1) → (vr x).length ≤ k + 1 := by
  intro k
  induction k generalizing x with
  | zero => intro h; rw [vr_low x (by simpa using h)]; simp
  | succ k ih =>
    intro h
    by_cases hb : 128 ≤ x
    · rw [vr_big x hb, List.length_cons]
      have := ih (x / 128) (by rw [Nat.pow_succ] at h; omega)
      omega
    · rw [vr_low x (by omega)]; simp
theorem vr_len10 (x : Nat) (h : x ≤ 18446744073709551615) : (vr x).length ≤ 10 := vr_len x 9 (by omega)


set_option maxRecDepth 100000 in
theorem wvar (g : Nat) (A : Option Addr) (n c : Nat) (l : List UInt8) (x : Nat) (w0 : World) (hw : (wt g A n c l).holds w0) (hx : x ≤ 18446744073709551615) (hn : l.length ≤ 70368744176000) :
    Calls Try.prog 30 #[.pointer (some ⟨g, 0, none⟩), .int .u64 (x : Int)] w0 fun e w' => ∃ u, e = .returned u ∧ Laid w0 w' g A n c l (l ++ vr x) := by
  refine enter1 (env := [(0, .pointer (some ⟨g, 0, none⟩)), (1, .int .u64 (x : Int))]) [.pointer (some ⟨g, 0, none⟩), .int .u64 (x : Int)] Try.func30 rfl Try.ntmps30 rfl rfl ?_
  have hln := wt_len hw; have S0 := St.borrow1 (wt g A n c l) hw (wt_lt hw)
  refine T_seq fun K1 hK1 => ?_
  refine T_region ?_
  refine L_y (y_move rfl) rfl ?_
  refine L_y (y_makeFunc rfl rfl) rfl ?_
  refine L_y (y_assign rfl) rfl ?_
  refine L_nil ?_
  refine hK1 _ _ ?_
  refine T_seq fun K2 hK2 => ?_
  refine T_block ?_
  refine T_loop2 [(4, _)] (fun (y : Nat) (m : List UInt8) => [(1, .int .u64 (y : Int))]) (fun (y : Nat) (m : List UInt8) => y) (fun (y : Nat) (m : List UInt8) (w : World) => (m ++ vr y = l ++ vr x ∧ y ≤ x ∧ m.length + (vr y).length ≤ 70368744177000) ∧ ∃ A1 n1 c1, St w0 (wt g A n c l).dom [wt g A1 n1 c1 m] w) x l (Sub.cons rfl (by first | rfl | exact congrArg (Value.int _) (by omega)) (Sub.nil _)) (Sub.cons rfl rfl (Sub.nil _)) ?_ ?_
  ·
    have := vr_len10 x hx
    exact ⟨⟨rfl, Nat.le_refl _, by omega⟩, _, _, _, S0⟩
  ·
    intro y m w1 hrel
    obtain ⟨⟨hm, hy, hml⟩, A1, n1, c1, S1⟩ := hrel
    have hg : m.length ≤ 70368744177000 := by omega
    refine T_seq fun K3 hK3 => ?_
    refine T_seq fun K4 hK4 => ?_
    refine T_region ?_
    refine L_y (y_move rfl) rfl ?_
    refine L_y (y_geq rfl rfl) rfl ?_
    refine L_nil ?_
    refine hK4 _ _ ?_
    refine T_cond rfl (fun h8 => ?_) (fun h8 => ?_)
    ·
      refine T_skip ?_
      refine hK3 _ _ ?_
      refine T_block ?_
      refine T_seq fun K5 hK5 => ?_
      refine T_region ?_
      refine L_y (y_move rfl) rfl ?_
      refine L_y (y_move rfl) rfl ?_
      refine L_y (y_conv is65 Try.underlying5 rfl (w8 _)) rfl ?_
      refine L_y (y_bits rfl rfl rfl (orB _)) rfl ?_
      refine L_o (o_callv rfl Try.func31 rfl rfl (wbyte g _ _ _ _ (UInt8.ofNat (y % 128 + 128)) w1 (S1.get 0 rfl) (by omega)) rfl rfl (fun d' hd => by cases hd <;> rfl) ?_)
      rintro e2 w2 ⟨v2, rfl, ⟨A2, n2, c2, T2⟩⟩
      refine ⟨_, rfl, ?_⟩
      have S2 := S1.turn 0 rfl T2
      refine L_nil ?_
      refine hK5 _ _ ?_
      refine T_region ?_
      refine L_y (y_move rfl) rfl ?_
      refine L_y (y_shr rfl rfl (by omega) (shr7 _)) rfl ?_
      refine L_y (y_assign rfl) rfl ?_
      refine L_nil ?_
      refine ⟨y / 128, m ++ [UInt8.ofNat (y % 128 + 128)], by omega, ⟨⟨by rw [← hm, vr_big y (by omega)]; simp, by omega, by rw [vr_big y (by omega)] at hml; simp at hml ⊢; omega⟩, _, _, _, S2⟩, ?_⟩
      exact (Sub.cons rfl (by first | rfl | exact congrArg (Value.int _) (by omega)) (Sub.cons rfl rfl (Sub.nil _)))
    ·
      refine T_exit ?_
      refine hK2 _ _ ?_
      refine T_region ?_
      refine L_y (y_move rfl) rfl ?_
      refine L_y (y_move rfl) rfl ?_
      refine L_y (y_conv is65 Try.underlying5 rfl (w8low _ (by omega))) rfl ?_
      refine L_o (o_callv rfl Try.func31 rfl rfl (wbyte g _ _ _ _ (UInt8.ofNat y) w1 (S1.get 0 rfl) (by omega)) rfl rfl (fun d' hd => by cases hd <;> rfl) ?_)
      rintro e3 w3 ⟨v3, rfl, ⟨A3, n3, c3, T3⟩⟩
      refine ⟨_, rfl, ?_⟩
      have S3 := S1.turn 0 rfl T3
      refine L_nil ?_
      first | refine end0 (fn := Try.f30) rfl ?_ | (simp only [thenQ, inB, if_true]; refine end0 (fn := Try.f30) rfl ?_)
      exact ⟨_, rfl, _, _, _, by rw [← hm, vr_low y (by omega)]; exact S3.turned1 0 rfl⟩


set_option maxRecDepth 100000 in
theorem wtext (g : Nat) (A : Option Addr) (n c : Nat) (l : List UInt8) (s : ByteArray) (w0 : World) (hw : (wt g A n c l).holds w0) (hn : l.length + s.size ≤ 70368744170000) :
    Calls Try.prog 32 #[.pointer (some ⟨g, 0, none⟩), .string s] w0 fun e w' => ∃ u, e = .returned u ∧ Laid w0 w' g A n c l (l ++ (vr s.size ++ s.data.toList)) := by
  refine enter1 (env := [(0, .pointer (some ⟨g, 0, none⟩)), (1, .string s)]) [.pointer (some ⟨g, 0, none⟩), .string s] Try.func32 rfl Try.ntmps32 rfl rfl ?_
  have hln := wt_len hw; have S0 := St.borrow1 (wt g A n c l) hw (wt_lt hw)
  refine T_seq fun K1 hK1 => ?_
  refine T_region ?_
  refine L_y (y_move rfl) rfl ?_
  refine L_y (y_move rfl) rfl ?_
  refine L_y (y_lens Try.underlying9 rfl) rfl ?_
  refine L_y (y_conv is3 Try.underlying65 rfl (u64w (by omega))) rfl ?_
  refine L_o (o_call Try.func30 rfl rfl (wvar g _ _ _ _ s.size w0 (S0.get 0 rfl) (by omega) (by omega)) rfl rfl ?_)
  rintro e1 w1 ⟨v1, rfl, ⟨A1, n1, c1, T1⟩⟩
  refine ⟨_, rfl, ?_⟩
  have S1 := S0.turn 0 rfl T1
  refine L_nil ?_
  refine hK1 _ _ ?_
  refine T_region ?_
  refine L_y (y_move rfl) rfl ?_
  refine L_y (y_move rfl) rfl ?_
  refine L_o (o_sbytes Try.underlying9 Try.underlying22 Try.underlying5 rfl (by omega) S1 rfl fun b2 c2 w2 l2 S2 => ?_)
  refine L_o (o_call Try.func52 rfl rfl (wraw g _ _ _ _ _ _ _ _ w2 (S2.get 0 rfl) (S2.get 1 rfl) (by have := vr_len10 s.size (by omega); simp; omega)) rfl rfl ?_)
  rintro e3 w3 ⟨v3, rfl, ⟨A3, n3, c3, T3⟩⟩
  refine ⟨_, rfl, ?_⟩
  have S3 := S2.turn 0 rfl T3
  refine L_nil ?_
  first | refine end0 (fn := Try.f32) rfl ?_ | (simp only [thenQ, inB, if_true]; refine end0 (fn := Try.f32) rfl ?_)
  exact ⟨_, rfl, _, _, _, by have h := S3.turned1 0 rfl; rwa [List.append_assoc] at h⟩


set_option maxRecDepth 100000 in
theorem wbytes (g : Nat) (A : Option Addr) (n c : Nat) (l : List UInt8) (w0 : World) (hw : (wt g A n c l).holds w0) (hn : l.length ≤ 70368744177000) :
    Calls Try.prog 33 #[.pointer (some ⟨g, 0, none⟩)] w0 fun e w' => ∃ u, e = .returned u ∧ Like w0 w' ∧ ∃ A' m c', u = .slice A' m c' ∧ w'.ownsRow w0.heap.size 5 1 (.slice A' m c') m (bL l) := by
  refine enter1 (env := [(0, .pointer (some ⟨g, 0, none⟩))]) [.pointer (some ⟨g, 0, none⟩)] Try.func33 rfl Try.ntmps33 rfl rfl ?_
  have hln := wt_len hw; have S0 := St.start w0 noM
  refine T_seq fun K1 hK1 => ?_
  refine T_region ?_
  refine L_y (y_assign rfl) rfl ?_
  refine L_nil ?_
  refine hK1 _ _ ?_
  refine T_seq fun K2 hK2 => ?_
  refine T_seq fun K3 hK3 => ?_
  refine T_region ?_
  refine L_y (y_move rfl) rfl ?_
  refine L_y (y_peqn Try.underlying62 rfl) rfl ?_
  refine L_y (y_move rfl) rfl ?_
  refine L_gyes rfl rfl ?_
  refine L_y (y_move rfl) rfl ?_
  refine L_gyes rfl rfl ?_
  refine L_y (y_nilp rfl) rfl ?_
  refine L_gyes rfl rfl ?_
  refine L_y (y_fieldA 0 Try.underlying93 rfl sz22 rfl rfl rfl) rfl ?_
  refine L_gyes rfl rfl ?_
  refine L_y (y_ldc Try.underlying22 rfl rfl (((S0.rdB hw.1).cell _).trans (show (#[Value.slice A n c] : Array Value)[0]? = some (Value.slice A n c) from rfl))) rfl ?_
  refine L_gyes rfl rfl ?_
  refine L_y (y_len Try.underlying22 rfl) rfl ?_
  refine L_gyes rfl rfl ?_
  refine L_y (y_eql rfl rfl) rfl ?_
  refine L_y ((by first | exact y_pickT rfl rfl | exact y_pickF rfl rfl)) rfl ?_
  refine L_nil ?_
  refine hK3 _ _ ?_
  refine T_cond rfl (fun h12 => ?_) (fun h12 => ?_)
  ·
    refine T_seq fun K4 hK4 => ?_
    refine T_region ?_
    refine L_y (y_assign rfl) rfl ?_
    refine L_nil ?_
    refine hK4 _ _ ?_
    refine T_ret ?_
    repeat (first | with_reducible refine up_then ?_ | with_reducible refine up_in ?_)
    refine ret1 rfl rfl ?_
    first | exact ⟨_, rfl, S0.like0, none, 0, 0, rfl, by have hn0 : n = 0 := (by omega); subst hn0; have hl0 := List.length_eq_zero_iff.1 hln; subst hl0; exact ⟨by simp [bL], .inl ⟨rfl, rfl⟩⟩⟩ | exact ⟨_, rfl, S0.like0, _, _, _, rfl, by have := S0.own 0 rfl; simpa using this⟩
  ·
    refine T_skip ?_
    refine hK2 _ _ ?_
    refine T_seq fun K5 hK5 => ?_
    refine T_zed [0, 1, 2, 3, 4, 6, 7, 8, 9, 5] 10 [(0, 1), (1, 1), (2, 1), (3, 1), (4, 1), (6, 1), (7, 1), (8, 1), (9, 1), (5, 2), (10, 3), (11, 3)] hmix (by kernel_rfl) fun w1 l1 => ?_
    have S1 := S0.like l1
    refine ZA_B (Like w1) (Like.refl _) ?_
    refine ZB_y rfl (y_move rfl) rfl ?_
    refine ZB_y rfl (y_nilp rfl) rfl ?_
    refine ZB_y rfl (y_fieldA 0 Try.underlying93 rfl sz22 rfl rfl rfl) rfl ?_
    refine ZB_y rfl (y_ldc Try.underlying22 rfl rfl (((S1.rdB hw.1).cell _).trans (show (#[Value.slice A n c] : Array Value)[0]? = some (Value.slice A n c) from rfl))) rfl ?_
    refine ZB_y rfl (y_len Try.underlying22 rfl) rfl ?_
    refine ZB_y rfl (y_move rfl) rfl ?_
    refine ZB_y rfl (y_nilp rfl) rfl ?_
    refine ZB_y rfl (y_fieldA 0 Try.underlying93 rfl sz22 rfl rfl rfl) rfl ?_
    refine ZB_y rfl (y_ldc Try.underlying22 rfl rfl (((S1.rdB hw.1).cell _).trans (show (#[Value.slice A n c] : Array Value)[0]? = some (Value.slice A n c) from rfl))) rfl ?_
    refine ZB_o rfl (o_makeL te22 rfl S1 rfl rfl inferInstance inferInstance rfl (by omega) (by omega) (by omega) fun b2 w2 l2 S2 => ?_)
    have q2 := l2
    refine ⟨q2, ?_⟩
    refine ZB_c rfl (o_app te22 S2 0 rfl rfl rfl (S2.rd (rs_of_row hw.2)) (bL_one _) rfl (by omega) (by omega) fun A3 c3 w3 S3 => ?_)
    refine ZA_oy rfl (y_assign rfl) rfl ?_
    refine ZA_nil ?_
    refine hK5 _ _ ?_
    refine T_ret ?_
    repeat (first | with_reducible refine up_then ?_ | with_reducible refine up_in ?_)
    refine ret1 rfl rfl ?_
    first | exact ⟨_, rfl, S3.like0, none, 0, 0, rfl, by have hn0 : n = 0 := (by omega); subst hn0; have hl0 := List.length_eq_zero_iff.1 hln; subst hl0; exact ⟨by simp [bL], .inl ⟨rfl, rfl⟩⟩⟩ | exact ⟨_, rfl, S3.like0, _, _, _, rfl, by have := S3.own 0 rfl; simpa using this⟩



set_option maxRecDepth 100000 in
theorem refvar (x : Nat) (w0 : World) (hx : x ≤ 18446744073709551615) :
    Calls Try.prog 35 #[.int .u64 (x : Int)] w0 fun e w' => ∃ u, e = .returned u ∧ Like w0 w' ∧ ∃ A m c, u = .slice A m c ∧ w'.ownsRow w0.heap.size 5 1 (.slice A m c) m (bL (vr x)) := by
  refine enter1 (env := [(0, .int .u64 (x : Int))]) [.int .u64 (x : Int)] Try.func35 rfl Try.ntmps35 rfl rfl ?_
  have S0 := St.start w0 noM
  refine T_seq fun K1 hK1 => ?_
  refine T_region ?_
  refine L_y (y_assign rfl) rfl ?_
  refine L_nil ?_
  refine hK1 _ _ ?_
  refine T_seq fun K2 hK2 => ?_
  refine T_region ?_
  have S1 := S0.nilrow 5 1
  refine L_y (y_assign rfl) rfl ?_
  refine L_nil ?_
  refine hK2 _ _ ?_
  refine T_seq fun K3 hK3 => ?_
  refine T_block ?_
  refine T_loop4 [] (fun (y : Nat) (m : List UInt8) (A : Option Addr) (c : Nat) => [(0, .int .u64 (y : Int)), (3, .slice A m.length c)]) (fun (y : Nat) (m : List UInt8) (A : Option Addr) (c : Nat) => y) (fun (y : Nat) (m : List UInt8) (A : Option Addr) (c : Nat) (w : World) => (m ++ vr y = vr x ∧ y ≤ x ∧ m.length + (vr y).length ≤ 10) ∧ St w0 noM [row 5 1 A m.length c (bL m)] w) x [] none 0 (Sub.cons rfl (by first | rfl | exact congrArg (Value.int _) (by omega)) (Sub.cons rfl (by first | rfl | exact congrArg (Value.int _) (by omega)) (Sub.nil _))) (Sub.nil _) ?_ ?_
  ·
    have := vr_len10 x hx
    exact ⟨⟨rfl, Nat.le_refl _, by simpa using this⟩, S1⟩
  ·
    intro y m A c w2 hrel
    obtain ⟨⟨hm, hy, hml⟩, S2⟩ := hrel
    have hg : m.length ≤ 10 := by omega
    refine T_seq fun K4 hK4 => ?_
    refine T_seq fun K5 hK5 => ?_
    refine T_region ?_
    refine L_y (y_move rfl) rfl ?_
    refine L_y (y_geq rfl rfl) rfl ?_
    refine L_nil ?_
    refine hK5 _ _ ?_
    refine T_cond rfl (fun h5 => ?_) (fun h5 => ?_)
    ·
      refine T_skip ?_
      refine hK4 _ _ ?_
      refine T_block ?_
      refine T_seq fun K6 hK6 => ?_
      refine T_region ?_
      refine L_y (y_move rfl) rfl ?_
      refine L_y (y_move rfl) rfl ?_
      refine L_y (y_rem rfl rfl (by omega) (remI (by omega))) rfl ?_
      refine L_y (y_add rfl rfl (u64w (by omega))) rfl ?_
      refine L_y (y_conv is65 Try.underlying5 rfl (IntKind.wrap_u8 _)) rfl ?_
      refine L_o (o_bsl [_] te22 zz5 S2 rfl rfl rfl rfl rfl rfl rfl rfl fun b3 w3 S3 => ?_)
      refine L_o (o_app te22 S3 0 rfl rfl rfl (by first | exact S3.row 0 rfl | exact S3.row 1 rfl) (by first | exact bL_one _ | exact iL_one _ | (intro u hu; simp at hu; subst hu; rfl) | (simp; done) | (simp [Value.oneCell']; done)) rfl (by omega) (by omega) fun A4 c4 w4 S4 => ?_)
      have S4d := S4.drop (rs' := [_]) (.cons_cons _ (.cons _ (.refl _)))
      refine L_y (y_assign rfl) rfl ?_
      refine L_nil ?_
      refine hK6 _ _ ?_
      refine T_region ?_
      refine L_y (y_move rfl) rfl ?_
      refine L_y (y_quo rfl rfl (by omega) (quoU (by omega) (by omega))) rfl ?_
      refine L_y (y_assign rfl) rfl ?_
      refine L_nil ?_
      have S9 := S4d.rowc 0 rfl (n' := (m ++ [UInt8.ofNat (y % 128 + 128)]).length) (xs' := bL (m ++ [UInt8.ofNat (y % 128 + 128)])) (by simp) (by rw [bL_app]; exact congrArg (fun v => bL m ++ [v]) (congrArg (Value.int _) (by rw [UInt8.toNat_ofNat']; first | omega | (rw [IntKind.wrap_u8]; omega))))
      refine ⟨y / 128, m ++ [UInt8.ofNat (y % 128 + 128)], _, _, by omega, ⟨⟨by rw [← hm, vr_big y (by omega)]; simp, by omega, by rw [vr_big y (by omega)] at hml; simp at hml ⊢; omega⟩, S9⟩, ?_⟩
      exact (Sub.cons rfl (congrArg (Value.int _) (by omega)) (Sub.cons rfl (by rw [List.length_append]; rfl) (Sub.nil _)))
    ·
      refine T_exit ?_
      refine hK3 _ _ ?_
      refine T_seq fun K7 hK7 => ?_
      refine T_region ?_
      refine L_y (y_move rfl) rfl ?_
      refine L_y (y_move rfl) rfl ?_
      refine L_y (y_conv is65 Try.underlying5 rfl (IntKind.wrap_u8 _)) rfl ?_
      refine L_o (o_bsl [_] te22 zz5 S2 rfl rfl rfl rfl rfl rfl rfl rfl fun b5 w5 S5 => ?_)
      refine L_o (o_app te22 S5 0 rfl rfl rfl (by first | exact S5.row 0 rfl | exact S5.row 1 rfl) (by first | exact bL_one _ | exact iL_one _ | (intro u hu; simp at hu; subst hu; rfl) | (simp; done) | (simp [Value.oneCell']; done)) rfl (by omega) (by omega) fun A6 c6 w6 S6 => ?_)
      have S6d := S6.drop (rs' := [_]) (.cons_cons _ (.cons _ (.refl _)))
      refine L_y (y_assign rfl) rfl ?_
      refine L_nil ?_
      refine hK7 _ _ ?_
      refine T_ret ?_
      repeat (first | with_reducible refine up_then ?_ | with_reducible refine up_in ?_)
      refine ret1 rfl rfl ?_
      exact ⟨_, rfl, S6d.like0, _, _, _, rfl, by have h := S6d.own 0 rfl; rw [← hm, vr_low y (by omega)]; simpa [bL, bV, IntKind.wrap_u8] using h⟩


set_option maxRecDepth 100000 in
theorem reftext (s : ByteArray) (w0 : World) (hs : s.size ≤ 70368744170000) :
    Calls Try.prog 36 #[.string s] w0 fun e w' => ∃ u, e = .returned u ∧ Like w0 w' ∧ ∃ A m c, u = .slice A m c ∧ w'.ownsRow w0.heap.size 5 1 (.slice A m c) m (bL (vr s.size ++ s.data.toList)) := by
  refine enter1 (env := [(0, .string s)]) [.string s] Try.func36 rfl Try.ntmps36 rfl rfl ?_
  have S0 := St.start w0 noM
  refine T_seq fun K1 hK1 => ?_
  refine T_region ?_
  refine L_y (y_assign rfl) rfl ?_
  refine L_nil ?_
  refine hK1 _ _ ?_
  refine T_seq fun K2 hK2 => ?_
  refine T_region ?_
  refine L_y (y_move rfl) rfl ?_
  refine L_y (y_lens Try.underlying9 rfl) rfl ?_
  refine L_y (y_conv is3 Try.underlying65 rfl (u64w (by omega))) rfl ?_
  refine L_o (o_call Try.func35 rfl rfl (refvar s.size w0 (by omega)) rfl rfl ?_)
  rintro e1 w1 ⟨v1, rfl, l1, A1, m1, c1, rfl, O1⟩
  refine ⟨_, rfl, ?_⟩
  have S1 := S0.adopt l1 O1
  have hv1 := (S1.row 0 rfl).lenb
  have hw1 := vr_len10 s.size (by omega)
  refine L_y (y_move rfl) rfl ?_
  refine L_o (o_sbytes Try.underlying9 Try.underlying22 Try.underlying5 rfl (by omega) S1 rfl fun b2 c2 w2 l2 S2 => ?_)
  refine L_o (o_app te22 S2 0 rfl rfl rfl (by first | exact S2.row 0 rfl | exact S2.fix 1 rfl) (by first | exact bL_one _ | exact iL_one _ | (intro u hu; simp at hu; subst hu; rfl) | (simp; done) | (simp [Value.oneCell']; done)) rfl (by omega) (by omega) fun A3 c3 w3 S3 => ?_)
  refine L_y (y_assign rfl) rfl ?_
  refine L_nil ?_
  refine hK2 _ _ ?_
  refine T_ret ?_
  repeat (first | with_reducible refine up_then ?_ | with_reducible refine up_in ?_)
  refine ret1 rfl rfl ?_
  exact ⟨_, rfl, S3.like0, _, _, _, rfl, by have h := S3.own 0 rfl; rwa [← bL_app] at h⟩


theorem big_set (x j k : Nat) (v : Value) (h : k < j) (hv : v = .int .u8 (IntKind.u8.wrap (((x / 256 ^ k : Nat) : Int) % 256))) : (bL (List.replicate (j - k) 0 ++ tl x k)).set (j - 1 - k) v = bL (List.replicate (j - (k + 1)) 0 ++ tl x (k + 1)) := by
  have e : v = bV (UInt8.ofNat (x / 256 ^ k % 256)) := by
    rw [hv]
    exact congrArg (Value.int _) (by rw [IntKind.wrap_u8, UInt8.toNat_ofNat']; omega)
  rw [e]
  unfold bL
  rw [← List.map_set, show j - k = (j - (k + 1)) + 1 by omega, List.replicate_succ', List.append_assoc, List.set_append_right _ _ (by simp; omega)]
  simp [tl, show j - 1 - k - (j - (k + 1)) = 0 by omega]
end Go.Proofs.Ytpcgldkllnkaeaa
