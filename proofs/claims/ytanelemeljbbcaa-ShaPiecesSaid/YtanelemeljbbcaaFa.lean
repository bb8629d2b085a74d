/-
  Sizes and zeros of the seat's types.
-/
import Derived.Test.YtanelemeljbbcaaZe
import Derived.Test.YtanelemeljbbcaaRows
namespace Go.Proofs.Ytanelemeljbbcaa
open Go.RowKit Zk Zx
set_option linter.unusedVariables false
set_option linter.unusedSimpArgs false
theorem hmix : Try.prog.follows .mixedOrders = true := by kernel_rfl
theorem is0 : (Try.prog.underlying 0).isSome = true := by kernel_rfl
theorem sz0 : (Try.prog.info? 0).map (·.size) = some 1 := by kernel_rfl
theorem is1 : (Try.prog.underlying 1).isSome = true := by kernel_rfl
theorem sz1 : (Try.prog.info? 1).map (·.size) = some 1 := by kernel_rfl
theorem zz1 (W : World) : (zeroValue 1).run Try.prog W = .ok (.nilFunc) W := by kernel_rfl
theorem is2 : (Try.prog.underlying 2).isSome = true := by kernel_rfl
theorem sz2 : (Try.prog.info? 2).map (·.size) = some 1 := by kernel_rfl
theorem zz2 (W : World) : (zeroValue 2).run Try.prog W = .ok (.int .i64 0) W := by kernel_rfl
theorem is3 : (Try.prog.underlying 3).isSome = true := by kernel_rfl
theorem sz3 : (Try.prog.info? 3).map (·.size) = some 1 := by kernel_rfl
theorem zz3 (W : World) : (zeroValue 3).run Try.prog W = .ok (.int .i64 0) W := by kernel_rfl
theorem is4 : (Try.prog.underlying 4).isSome = true := by kernel_rfl
theorem sz4 : (Try.prog.info? 4).map (·.size) = some 1 := by kernel_rfl
theorem zz4 (W : World) : (zeroValue 4).run Try.prog W = .ok (.bool false) W := by kernel_rfl
theorem is5 : (Try.prog.underlying 5).isSome = true := by kernel_rfl
theorem sz5 : (Try.prog.info? 5).map (·.size) = some 1 := by kernel_rfl
theorem zz5 (W : World) : (zeroValue 5).run Try.prog W = .ok (.int .u8 0) W := by kernel_rfl
theorem is9 : (Try.prog.underlying 9).isSome = true := by kernel_rfl
theorem sz9 : (Try.prog.info? 9).map (·.size) = some 1 := by kernel_rfl
theorem zz9 (W : World) : (zeroValue 9).run Try.prog W = .ok (.string ⟨#[]⟩) W := by kernel_rfl
theorem is22 : (Try.prog.underlying 22).isSome = true := by kernel_rfl
theorem sz22 : (Try.prog.info? 22).map (·.size) = some 1 := by kernel_rfl
theorem zz22 (W : World) : (zeroValue 22).run Try.prog W = .ok (.int .u64 0) W := by kernel_rfl
theorem is23 : (Try.prog.underlying 23).isSome = true := by kernel_rfl
theorem sz23 : (Try.prog.info? 23).map (·.size) = some 1 := by kernel_rfl
theorem zz23 (W : World) : (zeroValue 23).run Try.prog W = .ok (.slice none 0 0) W := by kernel_rfl
theorem te23 : Elem Try.prog 23 5 (.int .u8 0) 1 1 := ⟨Try.underlying23, by kernel_rfl, rfl, by decide⟩
theorem is28 : (Try.prog.underlying 28).isSome = true := by kernel_rfl
theorem sz28 : (Try.prog.info? 28).map (·.size) = some 1 := by kernel_rfl
theorem zz28 (W : World) : (zeroValue 28).run Try.prog W = .ok (.slice none 0 0) W := by kernel_rfl
theorem te28 : Elem Try.prog 28 23 (.slice none 0 0) 1 24 := ⟨Try.underlying28, by kernel_rfl, rfl, by decide⟩
theorem is30 : (Try.prog.underlying 30).isSome = true := by kernel_rfl
theorem sz30 : (Try.prog.info? 30).map (·.size) = some 32 := by kernel_rfl
theorem zz30 (W : World) : (zeroValue 30).run Try.prog W = .ok (.agg (Array.replicate 32 (.int .u8 0))) W := by kernel_rfl
theorem is34 : (Try.prog.underlying 34).isSome = true := by kernel_rfl
theorem sz34 : (Try.prog.info? 34).map (·.size) = some 1 := by kernel_rfl
theorem zz34 (W : World) : (zeroValue 34).run Try.prog W = .ok (.int .u32 0) W := by kernel_rfl
theorem is35 : (Try.prog.underlying 35).isSome = true := by kernel_rfl
theorem sz35 : (Try.prog.info? 35).map (·.size) = some 8 := by kernel_rfl
theorem zz35 (W : World) : (zeroValue 35).run Try.prog W = .ok (.agg #[.int .u32 0, .int .u32 0, .int .u32 0, .int .u32 0, .int .u32 0, .int .u32 0, .int .u32 0, .int .u32 0]) W := by kernel_rfl
theorem is36 : (Try.prog.underlying 36).isSome = true := by kernel_rfl
theorem sz36 : (Try.prog.info? 36).map (·.size) = some 1 := by kernel_rfl
theorem zz36 (W : World) : (zeroValue 36).run Try.prog W = .ok (.int .i64 0) W := by kernel_rfl
theorem is37 : (Try.prog.underlying 37).isSome = true := by kernel_rfl
theorem sz37 : (Try.prog.info? 37).map (·.size) = some 1 := by kernel_rfl
theorem is42 : (Try.prog.underlying 42).isSome = true := by kernel_rfl
theorem sz42 : (Try.prog.info? 42).map (·.size) = some 1 := by kernel_rfl
theorem zz42 (W : World) : (zeroValue 42).run Try.prog W = .ok (.pointer none) W := by kernel_rfl
theorem is47 : (Try.prog.underlying 47).isSome = true := by kernel_rfl
theorem sz47 : (Try.prog.info? 47).map (·.size) = some 1 := by kernel_rfl
theorem zz47 (W : World) : (zeroValue 47).run Try.prog W = .ok (.int .u64 0) W := by kernel_rfl
theorem is48 : (Try.prog.underlying 48).isSome = true := by kernel_rfl
theorem sz48 : (Try.prog.info? 48).map (·.size) = some 1 := by kernel_rfl
theorem zz48 (W : World) : (zeroValue 48).run Try.prog W = .ok (.slice none 0 0) W := by kernel_rfl
theorem te48 : Elem Try.prog 48 34 (.int .u32 0) 1 4 := ⟨Try.underlying48, by kernel_rfl, rfl, by decide⟩
theorem is51 : (Try.prog.underlying 51).isSome = true := by kernel_rfl
theorem sz51 : (Try.prog.info? 51).map (·.size) = some 64 := by kernel_rfl
theorem zz51 (W : World) : (zeroValue 51).run Try.prog W = .ok (.agg (Array.replicate 64 (.int .u8 0))) W := by kernel_rfl
theorem is53 : (Try.prog.underlying 53).isSome = true := by kernel_rfl
theorem sz53 : (Try.prog.info? 53).map (·.size) = some 74 := by kernel_rfl
theorem zz53 (W : World) : (zeroValue 53).run Try.prog W = .ok (.agg #[.bool false, .int .u64 0, .int .u32 0, .int .u32 0, .int .u32 0, .int .u32 0, .int .u32 0, .int .u32 0, .int .u32 0, .int .u32 0, .int .u8 0, .int .u8 0, .int .u8 0, .int .u8 0, .int .u8 0, .int .u8 0, .int .u8 0, .int .u8 0, .int .u8 0, .int .u8 0, .int .u8 0, .int .u8 0, .int .u8 0, .int .u8 0, .int .u8 0, .int .u8 0, .int .u8 0, .int .u8 0, .int .u8 0, .int .u8 0, .int .u8 0, .int .u8 0, .int .u8 0, .int .u8 0, .int .u8 0, .int .u8 0, .int .u8 0, .int .u8 0, .int .u8 0, .int .u8 0, .int .u8 0, .int .u8 0, .int .u8 0, .int .u8 0, .int .u8 0, .int .u8 0, .int .u8 0, .int .u8 0, .int .u8 0, .int .u8 0, .int .u8 0, .int .u8 0, .int .u8 0, .int .u8 0, .int .u8 0, .int .u8 0, .int .u8 0, .int .u8 0, .int .u8 0, .int .u8 0, .int .u8 0, .int .u8 0, .int .u8 0, .int .u8 0, .int .u8 0, .int .u8 0, .int .u8 0, .int .u8 0, .int .u8 0, .int .u8 0, .int .u8 0, .int .u8 0, .int .u8 0, .int .u8 0]) W := by kernel_rfl
theorem is54 : (Try.prog.underlying 54).isSome = true := by kernel_rfl
theorem sz54 : (Try.prog.info? 54).map (·.size) = some 64 := by kernel_rfl
theorem zz54 (W : World) : (zeroValue 54).run Try.prog W = .ok (.agg (Array.replicate 64 (.int .u32 0))) W := by kernel_rfl
theorem is64 : (Try.prog.underlying 64).isSome = true := by kernel_rfl
theorem sz64 : (Try.prog.info? 64).map (·.size) = some 1 := by kernel_rfl
theorem zz64 (W : World) : (zeroValue 64).run Try.prog W = .ok (.nilFunc) W := by kernel_rfl
end Go.Proofs.Ytanelemeljbbcaa
