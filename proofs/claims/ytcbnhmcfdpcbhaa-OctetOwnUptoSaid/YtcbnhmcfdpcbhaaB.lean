/-
  U32, U64, Var, Text, Bytes.
-/
import Derived.Test.YtcbnhmcfdpcbhaaA
namespace Go.Proofs.Ytcbnhmcfdpcbhaa
open Go.RowKit Zk Zx
set_option linter.unusedVariables false
set_option linter.unusedSimpArgs false

/-- The last bytes of a number, the highest first. -/
def tl (v : Nat) : Nat → List UInt8
  | 0 => []
  | j + 1 => UInt8.ofNat (v / 256 ^ j % 256) :: tl v j
theorem length_tl (v : Nat) : ∀ j, (tl v j).length = j
  | 0 => rfl
  | j + 1 => by simp [tl, length_tl v j]
theorem tl_get (v : Nat) : ∀ (j i : Nat), i < j → (tl v j)[i]? = some (UInt8.ofNat (v / 256 ^ (j - 1 - i) % 256))
  | j + 1, 0, _ => by simp [tl]
  | j + 1, i + 1, h => by
    simp only [tl, List.getElem?_cons_succ]
    rw [tl_get v j i (by omega), show j + 1 - 1 - (i + 1) = j - 1 - i by omega]
theorem tl_take (v j i : Nat) (h : i < j) : (tl v j).take (i + 1) = (tl v j).take i ++ [UInt8.ofNat (v / 256 ^ (j - 1 - i) % 256)] := by
  rw [List.take_add_one, tl_get v j i h]
  rfl
theorem shr24 (x k : Nat) (h : k < 4) : Int.fdiv (x : Int) (2 ^ (min ((24 : Int) - 8 * (k : Int)).toNat IntKind.u32.bits)) = ((x / 256 ^ (4 - 1 - k) : Nat) : Int) := by
  have e1 : min ((24 : Int) - 8 * (k : Int)).toNat IntKind.u32.bits = 8 * (4 - 1 - k) := by simp only [IntKind.bits]; omega
  rw [e1, Int.fdiv_eq_ediv_of_nonneg _ (Int.pow_nonneg (by omega)), Int.natCast_ediv, Int.natCast_pow, Int.pow_mul]
  rfl
theorem byteOf (y : Nat) : IntKind.u8.wrap (y : Int) = ((UInt8.ofNat (y % 256)).toNat : Int) := by
  rw [IntKind.wrap_u8, UInt8.toNat_ofNat']
  omega


set_option maxRecDepth 100000 in
theorem wu32 (g : Nat) (A : Option Addr) (n c : Nat) (l : List UInt8) (x : Nat) (w0 : World) (hw : (wt g A n c l).holds w0) (hx : x ≤ 4294967295) (hn : l.length ≤ 70368744177000) :
    Calls Try.prog 31 #[.pointer (some ⟨g, 0, none⟩), .int .u32 (x : Int)] w0 fun e w' => ∃ u, e = .returned u ∧ Laid w0 w' g A n c l (l ++ tl x 4) := by
  refine enter1 (env := [(0, .pointer (some ⟨g, 0, none⟩)), (1, .int .u32 (x : Int))]) [.pointer (some ⟨g, 0, none⟩), .int .u32 (x : Int)] Try.func31 rfl Try.ntmps31 rfl rfl ?_
  have hln := wt_len hw; have S0 := St.borrow1 (wt g A n c l) hw (wt_lt hw)
  refine T_seq fun K1 hK1 => ?_
  refine T_region ?_
  refine L_y (y_move rfl) rfl ?_
  refine L_y (y_makeFunc rfl rfl) rfl ?_
  refine L_y (y_assign rfl) rfl ?_
  refine L_nil ?_
  refine hK1 _ _ ?_
  refine T_seq fun K2 hK2 => ?_
  refine T_region ?_
  refine L_y (y_assign rfl) rfl ?_
  refine L_nil ?_
  refine hK2 _ _ ?_
  refine T_block ?_
  refine T_loop1 [(1, _), (4, _)] (fun (k : Nat) => [(5, .int .i64 (24 - 8 * (k : Int)))]) (fun (k : Nat) => 4 - k) (fun (k : Nat) (w : World) => k ≤ 4 ∧ ∃ A1 n1 c1, St w0 (wt g A n c l).dom [wt g A1 n1 c1 (l ++ (tl x 4).take k)] w) 0 (Sub.cons rfl (by first | rfl | exact congrArg (Value.int _) (by omega)) (Sub.nil _)) (Sub.cons rfl rfl (Sub.cons rfl rfl (Sub.nil _))) ?_ ?_
  ·
    exact ⟨Nat.zero_le _, _, _, _, by simpa using S0⟩
  ·
    intro k w1 hrel
    obtain ⟨hk, A1, n1, c1, S1⟩ := hrel
    refine T_seq fun K3 hK3 => ?_
    refine T_seq fun K4 hK4 => ?_
    refine T_region ?_
    refine L_y (y_move rfl) rfl ?_
    refine L_y (y_geq rfl rfl) rfl ?_
    refine L_nil ?_
    refine hK4 _ _ ?_
    refine T_cond rfl (fun h9 => ?_) (fun h9 => ?_)
    ·
      refine T_skip ?_
      refine hK3 _ _ ?_
      refine T_seq fun K5 hK5 => ?_
      refine T_block ?_
      refine T_region ?_
      refine L_y (y_move rfl) rfl ?_
      refine L_y (y_move rfl) rfl ?_
      refine L_y (y_move rfl) rfl ?_
      refine L_y (y_conv is3 Try.underlying70 rfl (u64w (by omega))) rfl ?_
      refine L_y (y_shr rfl rfl (by omega) (shr24 x k (by omega))) rfl ?_
      refine L_y (y_conv is54 Try.underlying5 rfl (byteOf _)) rfl ?_
      refine L_o (o_callv rfl Try.func30 rfl rfl (wbyte g A1 n1 c1 (l ++ (tl x 4).take k) (UInt8.ofNat (x / 256 ^ (4 - 1 - k) % 256)) w1 (S1.get 0 rfl) (by simp [length_tl]; omega)) rfl rfl (fun d' hd => by cases hd <;> rfl) ?_)
      rintro e2 w2 ⟨v2, rfl, ⟨A2, n2, c2, T2⟩⟩
      refine ⟨_, rfl, ?_⟩
      have S2 := S1.turn 0 rfl T2
      refine L_nil ?_
      refine hK5 _ _ ?_
      refine T_region ?_
      refine L_y (y_move rfl) rfl ?_
      refine L_y (y_sub rfl rfl (i64w (by omega))) rfl ?_
      refine L_y (y_assign rfl) rfl ?_
      refine L_nil ?_
      refine ⟨k + 1, by omega, ⟨by omega, _, _, _, by rw [tl_take x 4 k (by omega), ← List.append_assoc]; exact S2⟩, ?_⟩
      exact (Sub.cons rfl (congrArg (Value.int _) (by omega)) (Sub.cons rfl rfl (Sub.cons rfl rfl (Sub.nil _))))
    ·
      have hk4 : k = 4 := by omega
      subst hk4
      refine T_exit ?_
      first | refine end0 (fn := Try.f31) rfl ?_ | (simp only [thenQ, inB, if_true]; refine end0 (fn := Try.f31) rfl ?_)
      exact ⟨_, rfl, A1, n1, c1, by simpa [List.take_of_length_le, length_tl] using S1.turned1 0 rfl⟩


theorem shr32 (x : Nat) : Int.fdiv (x : Int) (2 ^ (min (32 : Int).toNat IntKind.u64.bits)) = ((x / 4294967296 : Nat) : Int) := by
  have e1 : min (32 : Int).toNat IntKind.u64.bits = 32 := by decide
  rw [e1, Int.fdiv_eq_ediv_of_nonneg _ (Int.pow_nonneg (by omega)), Int.natCast_ediv]
  rfl
theorem w32 (y : Nat) : IntKind.u32.wrap (y : Int) = ((y % 4294967296 : Nat) : Int) := by
  rw [IntKind.wrap_u32]
  omega
theorem tl_mod (v : Nat) : tl (v % 4294967296) 4 = tl v 4 := by
  simp only [tl]
  rw [show v % 4294967296 / 256 ^ 3 % 256 = v / 256 ^ 3 % 256 by omega, show v % 4294967296 / 256 ^ 2 % 256 = v / 256 ^ 2 % 256 by omega, show v % 4294967296 / 256 ^ 1 % 256 = v / 256 ^ 1 % 256 by omega, show v % 4294967296 / 256 ^ 0 % 256 = v / 256 ^ 0 % 256 by omega]
theorem tl_eight (v : Nat) : tl v 8 = tl (v / 4294967296 % 4294967296) 4 ++ tl (v % 4294967296) 4 := by
  rw [tl_mod, tl_mod]
  simp only [tl, List.cons_append, List.nil_append]
  rw [show v / 4294967296 / 256 ^ 3 = v / 256 ^ 7 by omega, show v / 4294967296 / 256 ^ 2 = v / 256 ^ 6 by omega, show v / 4294967296 / 256 ^ 1 = v / 256 ^ 5 by omega, show v / 4294967296 / 256 ^ 0 = v / 256 ^ 4 by omega]


set_option maxRecDepth 100000 in
theorem wu64 (g : Nat) (A : Option Addr) (n c : Nat) (l : List UInt8) (x : Nat) (w0 : World) (hw : (wt g A n c l).holds w0) (hx : x ≤ 18446744073709551615) (hn : l.length ≤ 70368744176000) :
    Calls Try.prog 32 #[.pointer (some ⟨g, 0, none⟩), .int .u64 (x : Int)] w0 fun e w' => ∃ u, e = .returned u ∧ Laid w0 w' g A n c l (l ++ tl x 8) := by
  refine enter1 (env := [(0, .pointer (some ⟨g, 0, none⟩)), (1, .int .u64 (x : Int))]) [.pointer (some ⟨g, 0, none⟩), .int .u64 (x : Int)] Try.func32 rfl Try.ntmps32 rfl rfl ?_
  have hln := wt_len hw; have S0 := St.borrow1 (wt g A n c l) hw (wt_lt hw)
  refine T_seq fun K1 hK1 => ?_
  refine T_region ?_
  refine L_y (y_move rfl) rfl ?_
  refine L_y (y_move rfl) rfl ?_
  refine L_y (y_shr rfl rfl (by omega) (shr32 x)) rfl ?_
  refine L_y (y_conv is27 Try.underlying54 rfl (w32 _)) rfl ?_
  refine L_o (o_call Try.func31 rfl rfl (wu32 g _ _ _ _ (x / 4294967296 % 4294967296) w0 (S0.get 0 rfl) (by omega) (by first | omega | (simp [length_tl]; omega))) rfl rfl ?_)
  rintro e1 w1 ⟨v1, rfl, ⟨A1, n1, c1, T1⟩⟩
  refine ⟨_, rfl, ?_⟩
  have S1 := S0.turn 0 rfl T1
  refine L_nil ?_
  refine hK1 _ _ ?_
  refine T_region ?_
  refine L_y (y_move rfl) rfl ?_
  refine L_y (y_move rfl) rfl ?_
  refine L_y (y_conv is27 Try.underlying54 rfl (w32 _)) rfl ?_
  refine L_o (o_call Try.func31 rfl rfl (wu32 g _ _ _ _ (x % 4294967296) w1 (S1.get 0 rfl) (by omega) (by first | omega | (simp [length_tl]; omega))) rfl rfl ?_)
  rintro e2 w2 ⟨v2, rfl, ⟨A2, n2, c2, T2⟩⟩
  refine ⟨_, rfl, ?_⟩
  have S2 := S1.turn 0 rfl T2
  refine L_nil ?_
  first | refine end0 (fn := Try.f32) rfl ?_ | (simp only [thenQ, inB, if_true]; refine end0 (fn := Try.f32) rfl ?_)
  exact ⟨_, rfl, _, _, _, by have h := S2.turned1 0 rfl; rwa [List.append_assoc, ← tl_eight] at h⟩


/-- A number by sevens, the lowest first. -/
def vr (x : Nat) : List UInt8 := if h : 128 ≤ x then UInt8.ofNat (x % 128 + 128) :: vr (x / 128) else [UInt8.ofNat x]
termination_by x
decreasing_by omega
theorem vr_big (x : Nat) (h : 128 ≤ x) : vr x = UInt8.ofNat (x % 128 + 128) :: vr (x / 128) := by rw [vr, dif_pos h]
theorem vr_low (x : Nat) (h : x < 128) : vr x = [UInt8.ofNat x] := by rw [vr, dif_neg (by omega)]
set_option maxRecDepth 100000 in
theorem orBits : ∀ m : Fin 256, bits .or .u8 (m.val : Int) 128 = ((UInt8.ofNat (m.val % 128 + 128)).toNat : Int) := by decide
theorem shr7 (x : Nat) : Int.fdiv (x : Int) (2 ^ (min (7 : Int).toNat IntKind.u64.bits)) = ((x / 128 : Nat) : Int) := by
  have e1 : min (7 : Int).toNat IntKind.u64.bits = 7 := by decide
  rw [e1, Int.fdiv_eq_ediv_of_nonneg _ (Int.pow_nonneg (by omega)), Int.natCast_ediv]
  rfl


theorem orB (x : Nat) : bits .or .u8 ((x % 256 : Nat) : Int) 128 = ((UInt8.ofNat (x % 128 + 128)).toNat : Int) := by
  have h := orBits ⟨x % 256, by omega⟩
  rw [show (⟨x % 256, by omega⟩ : Fin 256).val = x % 256 from rfl] at h
  rw [h, show x % 256 % 128 = x % 128 by omega]
theorem w8 (y : Nat) : IntKind.u8.wrap (y : Int) = ((y % 256 : Nat) : Int) := by
  rw [IntKind.wrap_u8]
  omega
theorem w8low (y : Nat) (h : y < 128) : IntKind.u8.wrap (y : Int) = ((UInt8.ofNat y).toNat : Int) := by
  rw [IntKind.wrap_u8, UInt8.toNat_ofNat']
  omega
theorem vr_len (x : Nat) : ∀ k, x < 128 ^ (k + 1) → (vr x).length ≤ k + 1 := by
  intro k
  induction k generalizing x with
  | zero => intro h; rw [vr_low x (by simpa using h)]; simp
  | succ k ih =>
    intro h
    by_cases hb : 128 ≤ x
    · rw [vr_big x hb, List.length_cons]
      have := ih (x / 128) (by rw [Nat.pow_succ] at h; omega)
      omega
    · rw [vr_low x (by omega)]; simp
theorem vr_len10 (x : Nat) (h : x ≤ 18446744073709551615) : (vr x).length ≤ 10 := vr_len x 9 (by omega)


set_option maxRecDepth 100000 in
theorem wvar (g : Nat) (A : Option Addr) (n c : Nat) (l : List UInt8) (x : Nat) (w0 : World) (hw : (wt g A n c l).holds w0) (hx : x ≤ 18446744073709551615) (hn : l.length ≤ 70368744176000) :
    Calls Try.prog 20 #[.pointer (some ⟨g, 0, none⟩), .int .u64 (x : Int)] w0 fun e w' => ∃ u, e = .returned u ∧ Laid w0 w' g A n c l (l ++ vr x) := by
  refine enter1 (env := [(0, .pointer (some ⟨g, 0, none⟩)), (1, .int .u64 (x : Int))]) [.pointer (some ⟨g, 0, none⟩), .int .u64 (x : Int)] Try.func20 rfl Try.ntmps20 rfl rfl ?_
  have hln := wt_len hw; have S0 := St.borrow1 (wt g A n c l) hw (wt_lt hw)
  refine T_seq fun K1 hK1 => ?_
  refine T_region ?_
  refine L_y (y_move rfl) rfl ?_
  refine L_y (y_makeFunc rfl rfl) rfl ?_
  refine L_y (y_assign rfl) rfl ?_
  refine L_nil ?_
  refine hK1 _ _ ?_
  refine T_seq fun K2 hK2 => ?_
  refine T_block ?_
  refine T_loop2 [(4, _)] (fun (y : Nat) (m : List UInt8) => [(1, .int .u64 (y : Int))]) (fun (y : Nat) (m : List UInt8) => y) (fun (y : Nat) (m : List UInt8) (w : World) => (m ++ vr y = l ++ vr x ∧ y ≤ x ∧ m.length + (vr y).length ≤ 70368744177000) ∧ ∃ A1 n1 c1, St w0 (wt g A n c l).dom [wt g A1 n1 c1 m] w) x l (Sub.cons rfl (by first | rfl | exact congrArg (Value.int _) (by omega)) (Sub.nil _)) (Sub.cons rfl rfl (Sub.nil _)) ?_ ?_
  ·
    have := vr_len10 x hx
    exact ⟨⟨rfl, Nat.le_refl _, by omega⟩, _, _, _, S0⟩
  ·
    intro y m w1 hrel
    obtain ⟨⟨hm, hy, hml⟩, A1, n1, c1, S1⟩ := hrel
    have hg : m.length ≤ 70368744177000 := by omega
    refine T_seq fun K3 hK3 => ?_
    refine T_seq fun K4 hK4 => ?_
    refine T_region ?_
    refine L_y (y_move rfl) rfl ?_
    refine L_y (y_geq rfl rfl) rfl ?_
    refine L_nil ?_
    refine hK4 _ _ ?_
    refine T_cond rfl (fun h8 => ?_) (fun h8 => ?_)
    ·
      refine T_skip ?_
      refine hK3 _ _ ?_
      refine T_block ?_
      refine T_seq fun K5 hK5 => ?_
      refine T_region ?_
      refine L_y (y_move rfl) rfl ?_
      refine L_y (y_move rfl) rfl ?_
      refine L_y (y_conv is27 Try.underlying5 rfl (w8 _)) rfl ?_
      refine L_y (y_bits rfl rfl rfl (orB _)) rfl ?_
      refine L_o (o_callv rfl Try.func30 rfl rfl (wbyte g _ _ _ _ (UInt8.ofNat (y % 128 + 128)) w1 (S1.get 0 rfl) (by omega)) rfl rfl (fun d' hd => by cases hd <;> rfl) ?_)
      rintro e2 w2 ⟨v2, rfl, ⟨A2, n2, c2, T2⟩⟩
      refine ⟨_, rfl, ?_⟩
      have S2 := S1.turn 0 rfl T2
      refine L_nil ?_
      refine hK5 _ _ ?_
      refine T_region ?_
      refine L_y (y_move rfl) rfl ?_
      refine L_y (y_shr rfl rfl (by omega) (shr7 _)) rfl ?_
      refine L_y (y_assign rfl) rfl ?_
      refine L_nil ?_
      refine ⟨y / 128, m ++ [UInt8.ofNat (y % 128 + 128)], by omega, ⟨⟨by rw [← hm, vr_big y (by omega)]; simp, by omega, by rw [vr_big y (by omega)] at hml; simp at hml ⊢; omega⟩, _, _, _, S2⟩, ?_⟩
      exact (Sub.cons rfl (by first | rfl | exact congrArg (Value.int _) (by omega)) (Sub.cons rfl rfl (Sub.nil _)))
    ·
      refine T_exit ?_
      refine hK2 _ _ ?_
      refine T_region ?_
      refine L_y (y_move rfl) rfl ?_
      refine L_y (y_move rfl) rfl ?_
      refine L_y (y_conv is27 Try.underlying5 rfl (w8low _ (by omega))) rfl ?_
      refine L_o (o_callv rfl Try.func30 rfl rfl (wbyte g _ _ _ _ (UInt8.ofNat y) w1 (S1.get 0 rfl) (by omega)) rfl rfl (fun d' hd => by cases hd <;> rfl) ?_)
      rintro e3 w3 ⟨v3, rfl, ⟨A3, n3, c3, T3⟩⟩
      refine ⟨_, rfl, ?_⟩
      have S3 := S1.turn 0 rfl T3
      refine L_nil ?_
      first | refine end0 (fn := Try.f20) rfl ?_ | (simp only [thenQ, inB, if_true]; refine end0 (fn := Try.f20) rfl ?_)
      exact ⟨_, rfl, _, _, _, by rw [← hm, vr_low y (by omega)]; exact S3.turned1 0 rfl⟩


set_option maxRecDepth 100000 in
theorem wtext (g : Nat) (A : Option Addr) (n c : Nat) (l : List UInt8) (s : ByteArray) (w0 : World) (hw : (wt g A n c l).holds w0) (hn : l.length + s.size ≤ 70368744170000) :
    Calls Try.prog 21 #[.pointer (some ⟨g, 0, none⟩), .string s] w0 fun e w' => ∃ u, e = .returned u ∧ Laid w0 w' g A n c l (l ++ (vr s.size ++ s.data.toList)) := by
  refine enter1 (env := [(0, .pointer (some ⟨g, 0, none⟩)), (1, .string s)]) [.pointer (some ⟨g, 0, none⟩), .string s] Try.func21 rfl Try.ntmps21 rfl rfl ?_
  have hln := wt_len hw; have S0 := St.borrow1 (wt g A n c l) hw (wt_lt hw)
  refine T_seq fun K1 hK1 => ?_
  refine T_region ?_
  refine L_y (y_move rfl) rfl ?_
  refine L_y (y_move rfl) rfl ?_
  refine L_y (y_lens Try.underlying9 rfl) rfl ?_
  refine L_y (y_conv is3 Try.underlying27 rfl (u64w (by omega))) rfl ?_
  refine L_o (o_call Try.func20 rfl rfl (wvar g _ _ _ _ s.size w0 (S0.get 0 rfl) (by omega) (by omega)) rfl rfl ?_)
  rintro e1 w1 ⟨v1, rfl, ⟨A1, n1, c1, T1⟩⟩
  refine ⟨_, rfl, ?_⟩
  have S1 := S0.turn 0 rfl T1
  refine L_nil ?_
  refine hK1 _ _ ?_
  refine T_region ?_
  refine L_y (y_move rfl) rfl ?_
  refine L_y (y_move rfl) rfl ?_
  refine L_o (o_sbytes Try.underlying9 Try.underlying25 Try.underlying5 rfl (by omega) S1 rfl fun b2 c2 w2 l2 S2 => ?_)
  refine L_o (o_call Try.func29 rfl rfl (wraw g _ _ _ _ _ _ _ _ w2 (S2.get 0 rfl) (S2.get 1 rfl) (by have := vr_len10 s.size (by omega); simp; omega)) rfl rfl ?_)
  rintro e3 w3 ⟨v3, rfl, ⟨A3, n3, c3, T3⟩⟩
  refine ⟨_, rfl, ?_⟩
  have S3 := S2.turn 0 rfl T3
  refine L_nil ?_
  first | refine end0 (fn := Try.f21) rfl ?_ | (simp only [thenQ, inB, if_true]; refine end0 (fn := Try.f21) rfl ?_)
  exact ⟨_, rfl, _, _, _, by have h := S3.turned1 0 rfl; rwa [List.append_assoc] at h⟩


set_option maxRecDepth 100000 in
theorem wbytes (g : Nat) (A : Option Addr) (n c : Nat) (l : List UInt8) (w0 : World) (hw : (wt g A n c l).holds w0) (hn : l.length ≤ 70368744177000) :
    Calls Try.prog 13 #[.pointer (some ⟨g, 0, none⟩)] w0 fun e w' => ∃ u, e = .returned u ∧ Like w0 w' ∧ ∃ A' m c', u = .slice A' m c' ∧ w'.ownsRow w0.heap.size 5 1 (.slice A' m c') m (bL l) := by
  refine enter1 (env := [(0, .pointer (some ⟨g, 0, none⟩))]) [.pointer (some ⟨g, 0, none⟩)] Try.func13 rfl Try.ntmps13 rfl rfl ?_
  have hln := wt_len hw; have S0 := St.start w0 noM
  refine T_seq fun K1 hK1 => ?_
  refine T_region ?_
  refine L_y (y_assign rfl) rfl ?_
  refine L_nil ?_
  refine hK1 _ _ ?_
  refine T_seq fun K2 hK2 => ?_
  refine T_seq fun K3 hK3 => ?_
  refine T_region ?_
  refine L_y (y_move rfl) rfl ?_
  refine L_y (y_peqn Try.underlying23 rfl) rfl ?_
  refine L_y (y_move rfl) rfl ?_
  refine L_gyes rfl rfl ?_
  refine L_y (y_move rfl) rfl ?_
  refine L_gyes rfl rfl ?_
  refine L_y (y_nilp rfl) rfl ?_
  refine L_gyes rfl rfl ?_
  refine L_y (y_fieldA 0 Try.underlying63 rfl sz25 rfl rfl rfl) rfl ?_
  refine L_gyes rfl rfl ?_
  refine L_y (y_ldc Try.underlying25 rfl rfl (((S0.rdB hw.1).cell _).trans (show (#[Value.slice A n c] : Array Value)[0]? = some (Value.slice A n c) from rfl))) rfl ?_
  refine L_gyes rfl rfl ?_
  refine L_y (y_len Try.underlying25 rfl) rfl ?_
  refine L_gyes rfl rfl ?_
  refine L_y (y_eql rfl rfl) rfl ?_
  refine L_y ((by first | exact y_pickT rfl rfl | exact y_pickF rfl rfl)) rfl ?_
  refine L_nil ?_
  refine hK3 _ _ ?_
  refine T_cond rfl (fun h12 => ?_) (fun h12 => ?_)
  ·
    refine T_seq fun K4 hK4 => ?_
    refine T_region ?_
    refine L_y (y_assign rfl) rfl ?_
    refine L_nil ?_
    refine hK4 _ _ ?_
    refine T_ret ?_
    repeat (first | with_reducible refine up_then ?_ | with_reducible refine up_in ?_)
    refine ret1 rfl rfl ?_
    first | exact ⟨_, rfl, S0.like0, none, 0, 0, rfl, by have hn0 : n = 0 := (by omega); subst hn0; have hl0 := List.length_eq_zero_iff.1 hln; subst hl0; exact ⟨by simp [bL], .inl ⟨rfl, rfl⟩⟩⟩ | exact ⟨_, rfl, S0.like0, _, _, _, rfl, by have := S0.own 0 rfl; simpa using this⟩
  ·
    refine T_skip ?_
    refine hK2 _ _ ?_
    refine T_seq fun K5 hK5 => ?_
    refine T_zed [0, 1, 2, 3, 4, 6, 7, 8, 9, 5] 10 [(0, 1), (1, 1), (2, 1), (3, 1), (4, 1), (6, 1), (7, 1), (8, 1), (9, 1), (5, 2), (10, 3), (11, 3)] hmix (by kernel_rfl) fun w1 l1 => ?_
    have S1 := S0.like l1
    refine ZA_B (Like w1) (Like.refl _) ?_
    refine ZB_y rfl (y_move rfl) rfl ?_
    refine ZB_y rfl (y_nilp rfl) rfl ?_
    refine ZB_y rfl (y_fieldA 0 Try.underlying63 rfl sz25 rfl rfl rfl) rfl ?_
    refine ZB_y rfl (y_ldc Try.underlying25 rfl rfl (((S1.rdB hw.1).cell _).trans (show (#[Value.slice A n c] : Array Value)[0]? = some (Value.slice A n c) from rfl))) rfl ?_
    refine ZB_y rfl (y_len Try.underlying25 rfl) rfl ?_
    refine ZB_y rfl (y_move rfl) rfl ?_
    refine ZB_y rfl (y_nilp rfl) rfl ?_
    refine ZB_y rfl (y_fieldA 0 Try.underlying63 rfl sz25 rfl rfl rfl) rfl ?_
    refine ZB_y rfl (y_ldc Try.underlying25 rfl rfl (((S1.rdB hw.1).cell _).trans (show (#[Value.slice A n c] : Array Value)[0]? = some (Value.slice A n c) from rfl))) rfl ?_
    refine ZB_o rfl (o_makeL te25 rfl S1 rfl rfl inferInstance inferInstance rfl (by omega) (by omega) (by omega) fun b2 w2 l2 S2 => ?_)
    have q2 := l2
    refine ⟨q2, ?_⟩
    refine ZB_c rfl (o_app te25 S2 0 rfl rfl rfl (S2.rd (rs_of_row hw.2)) (bL_one _) rfl (by omega) (by omega) fun A3 c3 w3 S3 => ?_)
    refine ZA_oy rfl (y_assign rfl) rfl ?_
    refine ZA_nil ?_
    refine hK5 _ _ ?_
    refine T_ret ?_
    repeat (first | with_reducible refine up_then ?_ | with_reducible refine up_in ?_)
    refine ret1 rfl rfl ?_
    first | exact ⟨_, rfl, S3.like0, none, 0, 0, rfl, by have hn0 : n = 0 := (by omega); subst hn0; have hl0 := List.length_eq_zero_iff.1 hln; subst hl0; exact ⟨by simp [bL], .inl ⟨rfl, rfl⟩⟩⟩ | exact ⟨_, rfl, S3.like0, _, _, _, rfl, by have := S3.own 0 rfl; simpa using this⟩
end Go.Proofs.Ytcbnhmcfdpcbhaa
