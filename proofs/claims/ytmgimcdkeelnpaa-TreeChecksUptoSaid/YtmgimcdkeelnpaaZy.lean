/-
  What the quiet operations yield. General; nothing here names a program.
-/
import Derived.Test.YtmgimcdkeelnpaaZx
namespace Go.Proofs.Ytmgimcdkeelnpaa.Zx
open Go.RowKit Zk
set_option linter.unusedVariables false
set_option linter.unusedSimpArgs false

/-! ### wraps -/
theorem i64w {n : Int} (h : -9223372036854775808 ≤ n ∧ n ≤ 9223372036854775807) : IntKind.i64.wrap n = n := IntWalk.i64_in n h
theorem u8w {n : Int} (h : 0 ≤ n ∧ n ≤ 255) : IntKind.u8.wrap n = n := IntWalk.u8_in n h
theorem u32w {n : Int} (h : 0 ≤ n ∧ n ≤ 4294967295) : IntKind.u32.wrap n = n := IntWalk.u32_in n h
theorem u64w {n : Int} (h : 0 ≤ n ∧ n ≤ 18446744073709551615) : IntKind.u64.wrap n = n := by rw [IntKind.wrap_u64]; omega
/-- A whole number that is a natural one. -/
class Nt (j : Int) (k : outParam Nat) : Prop where
  eq : j = (k : Int)
instance (k : Nat) : Nt (k : Int) k := ⟨rfl⟩
instance (n : Nat) : Nt (no_index (OfNat.ofNat n) : Int) (OfNat.ofNat n) := ⟨rfl⟩
instance (x y : Int) (a b : Nat) [h : Nt x a] [k : Nt y b] : Nt (x + y) (a + b) := ⟨by rw [h.eq, k.eq]; omega⟩
instance (x y : Int) (a b : Nat) [h : Nt x a] [k : Nt y b] : Nt (x * y) (a * b) := ⟨by rw [h.eq, k.eq]; simp⟩
instance (x y : Int) (a b : Nat) [h : Nt x a] [k : Nt y b] : Nt (x / y) (a / b) := ⟨by rw [h.eq, k.eq]; simp⟩
instance (x y : Int) (a b : Nat) [h : Nt x a] [k : Nt y b] : Nt (x % y) (a % b) := ⟨by rw [h.eq, k.eq]; simp⟩

section
variable {P : Program} {S : World → Prop} {env : Env} {dst : Option Tmp} {ty : TypeId} {pos : String} {after : Array Edge} {g : Option (Nat × Bool)}

theorem Y.weak {S' : World → Prop} {o : Oper} {v : Value} (h : Y P S env o v) (hs : ∀ w, S' w → S w) : Y P S' env o v := fun N a w ha hw => h N a w ha (hs w hw)

theorem y_move {x : Operand} {v : Value} (hx : ev env x = some v) : Y P S env ⟨dst, .move x, ty, pos, after, g⟩ v := fun N a w ha _ => by simp [execOp, ha.eval hx]
theorem y_assign {x : Operand} {v : Value} (hx : ev env x = some v) : Y P S env ⟨dst, .assign x, ty, pos, after, g⟩ v := fun N a w ha _ => by simp [execOp, ha.eval hx]
theorem y_pickT {c x y : Operand} {v : Value} (hc : ev env c = some (.bool true)) (hx : ev env x = some v) : Y P S env ⟨dst, .pick c x y, ty, pos, after, g⟩ v := fun N a w ha _ => by
  simp [execOp, ha.eval hc, ha.eval hx, asBool]
theorem y_pickF {c x y : Operand} {v : Value} (hc : ev env c = some (.bool false)) (hy : ev env y = some v) : Y P S env ⟨dst, .pick c x y, ty, pos, after, g⟩ v := fun N a w ha _ => by
  simp [execOp, ha.eval hc, ha.eval hy, asBool]

/-! integers -/
theorem y_add {x y : Operand} {t u : TypeId} {k : IntKind} {m n r : Int} (hx : ev env x = some (.int k m)) (hy : ev env y = some (.int k n)) (hw : k.wrap (m + n) = r) :
    Y P S env ⟨dst, .binOp .add t x y u, ty, pos, after, g⟩ (.int k r) := fun N a w ha _ => by
  subst hw; simp only [execOp, ha.eval hx, ha.eval hy, eqGuard, binOp, Op.intArith, ne_eq, not_true_eq_false, if_false, Sem.run_bind, Sem.run_pure, Result.andThen_ok]
  rfl
theorem y_sub {x y : Operand} {t u : TypeId} {k : IntKind} {m n r : Int} (hx : ev env x = some (.int k m)) (hy : ev env y = some (.int k n)) (hw : k.wrap (m - n) = r) :
    Y P S env ⟨dst, .binOp .sub t x y u, ty, pos, after, g⟩ (.int k r) := fun N a w ha _ => by
  subst hw; simp only [execOp, ha.eval hx, ha.eval hy, eqGuard, binOp, Op.intArith, ne_eq, not_true_eq_false, if_false, Sem.run_bind, Sem.run_pure, Result.andThen_ok]
  rfl
theorem y_mul {x y : Operand} {t u : TypeId} {k : IntKind} {m n r : Int} (hx : ev env x = some (.int k m)) (hy : ev env y = some (.int k n)) (hw : k.wrap (m * n) = r) :
    Y P S env ⟨dst, .binOp .mul t x y u, ty, pos, after, g⟩ (.int k r) := fun N a w ha _ => by
  subst hw; simp only [execOp, ha.eval hx, ha.eval hy, eqGuard, binOp, Op.intArith, ne_eq, not_true_eq_false, if_false, Sem.run_bind, Sem.run_pure, Result.andThen_ok]
  rfl
theorem y_quo {x y : Operand} {t u : TypeId} {k : IntKind} {m n r : Int} (hx : ev env x = some (.int k m)) (hy : ev env y = some (.int k n)) (hn : n ≠ 0) (hw : k.wrap (m.tdiv n) = r) :
    Y P S env ⟨dst, .binOp .quo t x y u, ty, pos, after, g⟩ (.int k r) := fun N a w ha _ => by
  subst hw
  simp only [execOp, ha.eval hx, ha.eval hy, eqGuard_quo, binOp, Op.intDiv, ne_eq, not_true_eq_false, if_false, if_neg hn, Sem.run_bind, Sem.run_pure, Result.andThen_ok]
theorem y_rem {x y : Operand} {t u : TypeId} {k : IntKind} {m n r : Int} (hx : ev env x = some (.int k m)) (hy : ev env y = some (.int k n)) (hn : n ≠ 0) (hw : m.tmod n = r) :
    Y P S env ⟨dst, .binOp .rem t x y u, ty, pos, after, g⟩ (.int k r) := fun N a w ha _ => by
  subst hw
  simp only [execOp, ha.eval hx, ha.eval hy, eqGuard_rem, binOp, Op.intDiv, ne_eq, not_true_eq_false, if_false, if_neg hn, Sem.run_bind, Sem.run_pure, Result.andThen_ok]
/-- a / b where both are not below 0 -/
theorem quoI {m n : Int} (hm : 0 ≤ m ∧ m ≤ 9223372036854775807) (hn : 0 < n) : IntKind.i64.wrap (m.tdiv n) = m / n := by
  rw [Int.tdiv_eq_ediv_of_nonneg hm.1]
  refine i64w ⟨?_, ?_⟩
  · have := Int.ediv_nonneg hm.1 (Int.le_of_lt hn); omega
  · have := Int.ediv_le_self n hm.1; omega
theorem quoU {m n : Int} (hm : 0 ≤ m ∧ m ≤ 18446744073709551615) (hn : 0 < n) : IntKind.u64.wrap (m.tdiv n) = m / n := by
  rw [Int.tdiv_eq_ediv_of_nonneg hm.1]
  refine u64w ⟨?_, ?_⟩
  · have := Int.ediv_nonneg hm.1 (Int.le_of_lt hn); omega
  · have := Int.ediv_le_self n hm.1; omega
theorem quo32 {m n : Int} (hm : 0 ≤ m ∧ m ≤ 4294967295) (hn : 0 < n) : IntKind.u32.wrap (m.tdiv n) = m / n := by
  rw [Int.tdiv_eq_ediv_of_nonneg hm.1]
  refine u32w ⟨?_, ?_⟩
  · have := Int.ediv_nonneg hm.1 (Int.le_of_lt hn); omega
  · have := Int.ediv_le_self n hm.1; omega
theorem remI {m n : Int} (hm : 0 ≤ m) : m.tmod n = m % n := Int.tmod_eq_emod_of_nonneg hm
theorem y_bits {op : BinOp} {x y : Operand} {t u : TypeId} {k : IntKind} {m n r : Int} (hop : (op matches .and | .or | .xor | .andNot) = true) (hx : ev env x = some (.int k m)) (hy : ev env y = some (.int k n)) (hw : bits op k m n = r) :
    Y P S env ⟨dst, .binOp op t x y u, ty, pos, after, g⟩ (.int k r) := fun N a w ha _ => by
  subst hw
  cases op <;> simp at hop <;> simp only [execOp, ha.eval hx, ha.eval hy, eqGuard, binOp, Op.intBits, bits, ne_eq, not_true_eq_false, if_false, Sem.run_bind, Sem.run_pure, Result.andThen_ok] <;> rfl
theorem y_shl {x y : Operand} {t u : TypeId} {k k' : IntKind} {m n r : Int} (hx : ev env x = some (.int k m)) (hy : ev env y = some (.int k' n)) (hn : 0 ≤ n) (hw : k.wrap (m * 2 ^ (min n.toNat k.bits)) = r) :
    Y P S env ⟨dst, .binOp .shl t x y u, ty, pos, after, g⟩ (.int k r) := fun N a w ha _ => by
  subst hw
  have hn' : ¬ n < 0 := by omega
  simp only [execOp, ha.eval hx, ha.eval hy, eqGuard_shl, binOp, Op.shift, if_neg hn', Sem.run_bind, Sem.run_pure, Result.andThen_ok]
theorem y_shr {x y : Operand} {t u : TypeId} {k k' : IntKind} {m n r : Int} (hx : ev env x = some (.int k m)) (hy : ev env y = some (.int k' n)) (hn : 0 ≤ n) (hw : m.fdiv (2 ^ (min n.toNat k.bits)) = r) :
    Y P S env ⟨dst, .binOp .shr t x y u, ty, pos, after, g⟩ (.int k r) := fun N a w ha _ => by
  subst hw
  have hn' : ¬ n < 0 := by omega
  simp only [execOp, ha.eval hx, ha.eval hy, eqGuard_shr, binOp, Op.shift, if_neg hn', Sem.run_bind, Sem.run_pure, Result.andThen_ok]
theorem y_lss {x y : Operand} {t u : TypeId} {k : IntKind} {m n : Int} (hx : ev env x = some (.int k m)) (hy : ev env y = some (.int k n)) :
    Y P S env ⟨dst, .binOp .lss t x y u, ty, pos, after, g⟩ (.bool (decide (m < n))) := fun N a w ha _ => by
  simp only [execOp, ha.eval hx, ha.eval hy, eqGuard, binOp, Op.intCmp, ne_eq, not_true_eq_false, if_false, Sem.run_bind, Sem.run_pure, Result.andThen_ok]
  rfl
theorem y_leq {x y : Operand} {t u : TypeId} {k : IntKind} {m n : Int} (hx : ev env x = some (.int k m)) (hy : ev env y = some (.int k n)) :
    Y P S env ⟨dst, .binOp .leq t x y u, ty, pos, after, g⟩ (.bool (decide (m ≤ n))) := fun N a w ha _ => by
  simp only [execOp, ha.eval hx, ha.eval hy, eqGuard, binOp, Op.intCmp, ne_eq, not_true_eq_false, if_false, Sem.run_bind, Sem.run_pure, Result.andThen_ok]
  rfl
theorem y_gtr {x y : Operand} {t u : TypeId} {k : IntKind} {m n : Int} (hx : ev env x = some (.int k m)) (hy : ev env y = some (.int k n)) :
    Y P S env ⟨dst, .binOp .gtr t x y u, ty, pos, after, g⟩ (.bool (decide (n < m))) := fun N a w ha _ => by
  simp only [execOp, ha.eval hx, ha.eval hy, eqGuard, binOp, Op.intCmp, ne_eq, not_true_eq_false, if_false, Sem.run_bind, Sem.run_pure, Result.andThen_ok]
  rfl
theorem y_geq {x y : Operand} {t u : TypeId} {k : IntKind} {m n : Int} (hx : ev env x = some (.int k m)) (hy : ev env y = some (.int k n)) :
    Y P S env ⟨dst, .binOp .geq t x y u, ty, pos, after, g⟩ (.bool (decide (n ≤ m))) := fun N a w ha _ => by
  simp only [execOp, ha.eval hx, ha.eval hy, eqGuard, binOp, Op.intCmp, ne_eq, not_true_eq_false, if_false, Sem.run_bind, Sem.run_pure, Result.andThen_ok]
  rfl
theorem y_eql {x y : Operand} {t u : TypeId} {k : IntKind} {m n : Int} (hx : ev env x = some (.int k m)) (hy : ev env y = some (.int k n)) :
    Y P S env ⟨dst, .binOp .eql t x y u, ty, pos, after, g⟩ (.bool (decide (m = n))) := fun N a w ha _ => by
  simp only [execOp, ha.eval hx, ha.eval hy, eqGuard, binOp, ne_eq, not_true_eq_false, if_false, Op.intCmp, Sem.run_bind, Sem.run_pure, Result.andThen_ok]
  rfl
theorem y_neq {x y : Operand} {t u : TypeId} {k : IntKind} {m n : Int} (hx : ev env x = some (.int k m)) (hy : ev env y = some (.int k n)) :
    Y P S env ⟨dst, .binOp .neq t x y u, ty, pos, after, g⟩ (.bool (decide (m ≠ n))) := fun N a w ha _ => by
  simp only [execOp, ha.eval hx, ha.eval hy, eqGuard, binOp, ne_eq, not_true_eq_false, if_false, Op.intCmp, Sem.run_bind, Sem.run_pure, Result.andThen_ok]
  congr 2
  by_cases h : m = n <;> simp [h]
/-! strings -/
theorem y_cat {x y : Operand} {t u : TypeId} {m n : ByteArray} (hx : ev env x = some (.string m)) (hy : ev env y = some (.string n)) (hs : m.size + n.size ≤ 9223372036854775807) :
    Y P S env ⟨dst, .binOp .add t x y u, ty, pos, after, g⟩ (.string (m ++ n)) := fun N a w ha _ => by
  simp only [execOp, ha.eval hx, ha.eval hy, eqGuard_add, binOp, Sem.run_bind, Sem.run_pure, Result.andThen_ok, run_string_add_sum w m n hs]
theorem toList_loop (s : ByteArray) : ∀ (n i : Nat) (acc : List UInt8), s.size - i = n → ByteArray.toList.loop s i acc = acc.reverse ++ s.data.toList.drop i := by
  intro n
  induction n with
  | zero =>
    intro i acc h
    rw [ByteArray.toList.loop, if_neg (by omega), List.drop_of_length_le (by rw [size_toList]; omega), List.append_nil]
  | succ n ih =>
    intro i acc h
    have hi : i < s.data.toList.length := by rw [size_toList]; omega
    rw [ByteArray.toList.loop, if_pos (by omega), ih (i + 1) _ (by omega), List.drop_eq_getElem_cons hi]
    have : s.get! i = s.data.toList[i] := by
      rw [ByteArray.get!.eq_def]
      simp at hi
      simp [hi]
    rw [this]
    simp
theorem toList_eq (s : ByteArray) : s.toList = s.data.toList := by
  rw [ByteArray.toList, toList_loop s s.size 0 [] (by omega)]
  simp
theorem beq_str (m n : ByteArray) : (m.toList == n.toList) = decide (m = n) := by
  rw [toList_eq, toList_eq]
  by_cases h : m = n
  · subst h; simp
  · simp only [h, decide_false, beq_eq_false_iff_ne, ne_eq]
    intro h'
    apply h
    cases m; cases n
    simp only [ByteArray.mk.injEq]
    exact Array.toList_inj.1 h'
theorem y_seql {x y : Operand} {t u : TypeId} {m n : ByteArray} (hx : ev env x = some (.string m)) (hy : ev env y = some (.string n)) :
    Y P S env ⟨dst, .binOp .eql t x y u, ty, pos, after, g⟩ (.bool (decide (m = n))) := fun N a w ha _ => by
  simp only [execOp, ha.eval hx, ha.eval hy, eqGuard, binOp, Op.stringOp, Sem.run_bind, Sem.run_pure, Result.andThen_ok, beq_str]
  rfl
theorem y_sneq {x y : Operand} {t u : TypeId} {m n : ByteArray} (hx : ev env x = some (.string m)) (hy : ev env y = some (.string n)) :
    Y P S env ⟨dst, .binOp .neq t x y u, ty, pos, after, g⟩ (.bool (decide (m ≠ n))) := fun N a w ha _ => by
  simp only [execOp, ha.eval hx, ha.eval hy, eqGuard, binOp, Op.stringOp, Sem.run_bind, Sem.run_pure, Result.andThen_ok, beq_str]
  simp
/-- m before n, as Go compares strings. -/
def sLt (m n : ByteArray) : Bool := Op.bytesLess m.toList n.toList
theorem y_slss {x y : Operand} {t u : TypeId} {m n : ByteArray} (hx : ev env x = some (.string m)) (hy : ev env y = some (.string n)) :
    Y P S env ⟨dst, .binOp .lss t x y u, ty, pos, after, g⟩ (.bool (sLt m n)) := fun N a w ha _ => by
  simp only [execOp, ha.eval hx, ha.eval hy, eqGuard, binOp, Op.stringOp, Sem.run_bind, Sem.run_pure, Result.andThen_ok, beq_str]
  rfl
theorem y_sgeq {x y : Operand} {t u : TypeId} {m n : ByteArray} (hx : ev env x = some (.string m)) (hy : ev env y = some (.string n)) :
    Y P S env ⟨dst, .binOp .geq t x y u, ty, pos, after, g⟩ (.bool (!sLt m n)) := fun N a w ha _ => by
  simp only [execOp, ha.eval hx, ha.eval hy, eqGuard, binOp, Op.stringOp, Sem.run_bind, Sem.run_pure, Result.andThen_ok, beq_str]
  rfl
theorem y_sleq {x y : Operand} {t u : TypeId} {m n : ByteArray} (hx : ev env x = some (.string m)) (hy : ev env y = some (.string n)) :
    Y P S env ⟨dst, .binOp .leq t x y u, ty, pos, after, g⟩ (.bool (sLt m n || decide (m = n))) := fun N a w ha _ => by
  simp only [execOp, ha.eval hx, ha.eval hy, eqGuard, binOp, Op.stringOp, Sem.run_bind, Sem.run_pure, Result.andThen_ok, beq_str]
  rfl
theorem y_sgtr {x y : Operand} {t u : TypeId} {m n : ByteArray} (hx : ev env x = some (.string m)) (hy : ev env y = some (.string n)) :
    Y P S env ⟨dst, .binOp .gtr t x y u, ty, pos, after, g⟩ (.bool (!(sLt m n || decide (m = n)))) := fun N a w ha _ => by
  simp only [execOp, ha.eval hx, ha.eval hy, eqGuard, binOp, Op.stringOp, Sem.run_bind, Sem.run_pure, Result.andThen_ok, beq_str]
  rfl
/-! bools -/
theorem y_notD {x : Operand} {t : TypeId} {p : Prop} {inst : Decidable p} (hx : ev env x = some (.bool (@decide p inst))) : Y P S env ⟨dst, .unOp .not t x, ty, pos, after, g⟩ (.bool (decide (¬p))) := fun N a w ha _ => by
  simp only [execOp, ha.eval hx, Op.unary, Sem.run_bind, Sem.run_pure, Result.andThen_ok]
  simp
theorem y_not {x : Operand} {t : TypeId} {b : Bool} (hx : ev env x = some (.bool b)) : Y P S env ⟨dst, .unOp .not t x, ty, pos, after, g⟩ (.bool (!b)) := fun N a w ha _ => by
  simp only [execOp, ha.eval hx, Op.unary, Sem.run_bind, Sem.run_pure, Result.andThen_ok]
theorem y_neg {x : Operand} {t : TypeId} {k : IntKind} {n r : Int} (hx : ev env x = some (.int k n)) (hw : k.wrap (0 - n) = r) : Y P S env ⟨dst, .unOp .neg t x, ty, pos, after, g⟩ (.int k r) := fun N a w ha _ => by
  subst hw; simp only [execOp, ha.eval hx, Op.unary, Op.intArith, Sem.run_bind, Sem.run_pure, Result.andThen_ok]
theorem y_inv {x : Operand} {t : TypeId} {k : IntKind} {n r : Int} (hx : ev env x = some (.int k n)) (hw : bits .xor k (if k.signed then -1 else k.max) n = r) : Y P S env ⟨dst, .unOp .xor t x, ty, pos, after, g⟩ (.int k r) := fun N a w ha _ => by
  subst hw; simp only [execOp, ha.eval hx, Op.unary, Op.intBits, bits, Sem.run_bind, Sem.run_pure, Result.andThen_ok]
/-! conversions between integers -/
theorem y_conv {x : Operand} {src dt : TypeId} {k q : IntKind} {n r : Int} (hs : (P.underlying src).isSome = true) (hd : P.underlying dt = some (.int k)) (hx : ev env x = some (.int q n)) (hw : k.wrap n = r) :
    Y P S env ⟨dst, .convert src dt x, ty, pos, after, g⟩ (.int k r) := fun N a w ha _ => by
  subst hw
  have hk : P.intKind dt = k := by simp [Program.intKind, hd]
  have h1 := run_convert_int (P := P) (w := w) src dt q n hs (by rw [hk]; exact hd)
  rw [hk] at h1
  simp only [execOp, ha.eval hx, Sem.run_bind, h1, Sem.run_pure, Result.andThen_ok]
/-! len, cap -/
theorem y_len {x : Operand} {t e : TypeId} {A : Option Addr} {n c : Nat} (ht : P.underlying t = some (.slice e)) (hx : ev env x = some (.slice A n c)) :
    Y P S env ⟨dst, .call { callee := .builtin .len, args := #[x], argTypes := #[t] }, ty, pos, after, g⟩ (.int .i64 (n : Int)) := fun N a w ha _ => by
  have he : P.elem t = e := by simp [Program.elem, ht]
  have := run_len_slice (P := P) (w := w) t ty A n c (by rw [he]; exact ht)
  simp only [execOp, resolve, invoke, builtin, Sem.run_bind, Sem.run_pure, Result.andThen_ok, List.map_toArray, List.map_cons, List.map_nil, ha.eval hx, this]
  rfl
theorem y_lens {x : Operand} {t : TypeId} {s : ByteArray} (ht : P.underlying t = some .string) (hx : ev env x = some (.string s)) :
    Y P S env ⟨dst, .call { callee := .builtin .len, args := #[x], argTypes := #[t] }, ty, pos, after, g⟩ (.int .i64 (s.size : Int)) := fun N a w ha _ => by
  have := run_len_string (P := P) (w := w) t ty s ht
  simp only [execOp, resolve, invoke, builtin, Sem.run_bind, Sem.run_pure, Result.andThen_ok, List.map_toArray, List.map_cons, List.map_nil, ha.eval hx, this]
  rfl
theorem y_cap {x : Operand} {t e : TypeId} {A : Option Addr} {n c : Nat} (ht : P.underlying t = some (.slice e)) (hx : ev env x = some (.slice A n c)) :
    Y P S env ⟨dst, .call { callee := .builtin .cap, args := #[x], argTypes := #[t] }, ty, pos, after, g⟩ (.int .i64 (c : Int)) := fun N a w ha _ => by
  have he : P.elem t = e := by simp [Program.elem, ht]
  have := run_cap_slice (P := P) (w := w) t ty A n c (by rw [he]; exact ht)
  simp only [execOp, resolve, invoke, builtin, Sem.run_bind, Sem.run_pure, Result.andThen_ok, List.map_toArray, List.map_cons, List.map_nil, ha.eval hx, this]
  rfl
theorem y_min {x y : Operand} {t u : TypeId} {k : IntKind} {m n : Int} (hx : ev env x = some (.int k m)) (hy : ev env y = some (.int k n)) :
    Y P S env ⟨dst, .call { callee := .builtin .min, args := #[x, y], argTypes := #[t, u] }, ty, pos, after, g⟩ (.int k (min m n)) := fun N a w ha _ => by
  simp only [execOp, resolve, invoke, builtin, Sem.run_bind, Sem.run_pure, Result.andThen_ok, List.map_toArray, List.map_cons, List.map_nil, ha.eval hx, ha.eval hy, Builtin.min_, List.foldlM_cons, List.foldlM_nil, Builtin.min2]
  have : (if n < m then n else m) = min m n := by split <;> omega
  rw [this]
theorem y_max {x y : Operand} {t u : TypeId} {k : IntKind} {m n : Int} (hx : ev env x = some (.int k m)) (hy : ev env y = some (.int k n)) :
    Y P S env ⟨dst, .call { callee := .builtin .max, args := #[x, y], argTypes := #[t, u] }, ty, pos, after, g⟩ (.int k (max m n)) := fun N a w ha _ => by
  simp only [execOp, resolve, invoke, builtin, Sem.run_bind, Sem.run_pure, Result.andThen_ok, List.map_toArray, List.map_cons, List.map_nil, ha.eval hx, ha.eval hy, Builtin.max_, List.foldlM_cons, List.foldlM_nil, Builtin.max2]
  have : (if n > m then n else m) = max m n := by split <;> omega
  rw [this]
/-! parts of values -/
theorem y_extract {x : Operand} {i : Nat} {vs : Array Value} {v : Value} (hx : ev env x = some (.tuple vs)) (hv : vs[i]? = some v) : Y P S env ⟨dst, .extract x i, ty, pos, after, g⟩ v := fun N a w ha _ => by
  simp only [execOp, ha.eval hx, Instr.extract, hv, Sem.run_bind, Sem.run_pure, Result.andThen_ok]
/-- The next operation's value by its run. -/
theorem y_run {o : Oper} {v : Value} (h : ∀ (ρ : Operand → Value), (∀ x u, ev env x = some u → ρ x = u) → ∀ w, S w → (execOp ρ o).run P w = .ok (.value v) w) : Y P S env o v := fun N a w ha hw =>
  h a.eval (fun x u hx => ha.eval hx) w hw
/-! nil checks -/
theorem y_nilp {x : Operand} {p : Addr} (hx : ev env x = some (.pointer (some p))) : Y P S env ⟨dst, .nilCheck x, ty, pos, after, g⟩ (.pointer (some p)) := fun N a w ha _ => by
  simp only [execOp, ha.eval hx, Sem.run_pure]
end
end Go.Proofs.Ytmgimcdkeelnpaa.Zx
