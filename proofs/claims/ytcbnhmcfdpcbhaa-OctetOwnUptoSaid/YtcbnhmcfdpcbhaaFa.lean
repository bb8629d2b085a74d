/-
  Sizes and zeros of the seat's types.
-/
import Derived.Test.YtcbnhmcfdpcbhaaZg
import Derived.Test.YtcbnhmcfdpcbhaaZh
import Derived.Test.YtcbnhmcfdpcbhaaZj
import Derived.Test.YtcbnhmcfdpcbhaaRows
namespace Go.Proofs.Ytcbnhmcfdpcbhaa
open Go.RowKit Zk Zx
set_option linter.unusedVariables false
set_option linter.unusedSimpArgs false
theorem hmix : Try.prog.follows .mixedOrders = true := by kernel_rfl
theorem is0 : (Try.prog.underlying 0).isSome = true := by kernel_rfl
theorem sz0 : (Try.prog.info? 0).map (·.size) = some 1 := by kernel_rfl
theorem is1 : (Try.prog.underlying 1).isSome = true := by kernel_rfl
theorem sz1 : (Try.prog.info? 1).map (·.size) = some 1 := by kernel_rfl
theorem zz1 (W : World) : (zeroValue 1).run Try.prog W = .ok (.nilFunc) W := by kernel_rfl
theorem is2 : (Try.prog.underlying 2).isSome = true := by kernel_rfl
theorem sz2 : (Try.prog.info? 2).map (·.size) = some 1 := by kernel_rfl
theorem zz2 (W : World) : (zeroValue 2).run Try.prog W = .ok (.int .i64 0) W := by kernel_rfl
theorem is3 : (Try.prog.underlying 3).isSome = true := by kernel_rfl
theorem sz3 : (Try.prog.info? 3).map (·.size) = some 1 := by kernel_rfl
theorem zz3 (W : World) : (zeroValue 3).run Try.prog W = .ok (.int .i64 0) W := by kernel_rfl
theorem is4 : (Try.prog.underlying 4).isSome = true := by kernel_rfl
theorem sz4 : (Try.prog.info? 4).map (·.size) = some 1 := by kernel_rfl
theorem zz4 (W : World) : (zeroValue 4).run Try.prog W = .ok (.bool false) W := by kernel_rfl
theorem is5 : (Try.prog.underlying 5).isSome = true := by kernel_rfl
theorem sz5 : (Try.prog.info? 5).map (·.size) = some 1 := by kernel_rfl
theorem zz5 (W : World) : (zeroValue 5).run Try.prog W = .ok (.int .u8 0) W := by kernel_rfl
theorem is9 : (Try.prog.underlying 9).isSome = true := by kernel_rfl
theorem sz9 : (Try.prog.info? 9).map (·.size) = some 1 := by kernel_rfl
theorem zz9 (W : World) : (zeroValue 9).run Try.prog W = .ok (.string ⟨#[]⟩) W := by kernel_rfl
theorem is22 : (Try.prog.underlying 22).isSome = true := by kernel_rfl
theorem sz22 : (Try.prog.info? 22).map (·.size) = some 1 := by kernel_rfl
theorem zz22 (W : World) : (zeroValue 22).run Try.prog W = .ok (.slice none 0 0) W := by kernel_rfl
theorem te22 : Elem Try.prog 22 29 (.agg #[.int .i64 0, .int .u64 0, .string ⟨#[]⟩]) 3 32 := ⟨Try.underlying22, by kernel_rfl, rfl, by decide⟩
theorem is23 : (Try.prog.underlying 23).isSome = true := by kernel_rfl
theorem sz23 : (Try.prog.info? 23).map (·.size) = some 1 := by kernel_rfl
theorem zz23 (W : World) : (zeroValue 23).run Try.prog W = .ok (.pointer none) W := by kernel_rfl
theorem is25 : (Try.prog.underlying 25).isSome = true := by kernel_rfl
theorem sz25 : (Try.prog.info? 25).map (·.size) = some 1 := by kernel_rfl
theorem zz25 (W : World) : (zeroValue 25).run Try.prog W = .ok (.slice none 0 0) W := by kernel_rfl
theorem te25 : Elem Try.prog 25 5 (.int .u8 0) 1 1 := ⟨Try.underlying25, by kernel_rfl, rfl, by decide⟩
theorem is27 : (Try.prog.underlying 27).isSome = true := by kernel_rfl
theorem sz27 : (Try.prog.info? 27).map (·.size) = some 1 := by kernel_rfl
theorem zz27 (W : World) : (zeroValue 27).run Try.prog W = .ok (.int .u64 0) W := by kernel_rfl
theorem is29 : (Try.prog.underlying 29).isSome = true := by kernel_rfl
theorem sz29 : (Try.prog.info? 29).map (·.size) = some 3 := by kernel_rfl
theorem zz29 (W : World) : (zeroValue 29).run Try.prog W = .ok (.agg #[.int .i64 0, .int .u64 0, .string ⟨#[]⟩]) W := by kernel_rfl
theorem is36 : (Try.prog.underlying 36).isSome = true := by kernel_rfl
theorem sz36 : (Try.prog.info? 36).map (·.size) = some 1 := by kernel_rfl
theorem zz36 (W : World) : (zeroValue 36).run Try.prog W = .ok (.pointer none) W := by kernel_rfl
theorem is40 : (Try.prog.underlying 40).isSome = true := by kernel_rfl
theorem sz40 : (Try.prog.info? 40).map (·.size) = some 1 := by kernel_rfl
theorem zz40 (W : World) : (zeroValue 40).run Try.prog W = .ok (.int .i64 0) W := by kernel_rfl
theorem is45 : (Try.prog.underlying 45).isSome = true := by kernel_rfl
theorem sz45 : (Try.prog.info? 45).map (·.size) = some 1 := by kernel_rfl
theorem zz45 (W : World) : (zeroValue 45).run Try.prog W = .ok (.slice none 0 0) W := by kernel_rfl
theorem te45 : Elem Try.prog 45 51 (.agg #[.int .i64 0, .int .u64 0, .int .i64 0]) 3 24 := ⟨Try.underlying45, by kernel_rfl, rfl, by decide⟩
theorem is46 : (Try.prog.underlying 46).isSome = true := by kernel_rfl
theorem sz46 : (Try.prog.info? 46).map (·.size) = some 1 := by kernel_rfl
theorem zz46 (W : World) : (zeroValue 46).run Try.prog W = .ok (.pointer none) W := by kernel_rfl
theorem is48 : (Try.prog.underlying 48).isSome = true := by kernel_rfl
theorem sz48 : (Try.prog.info? 48).map (·.size) = some 3 := by kernel_rfl
theorem zz48 (W : World) : (zeroValue 48).run Try.prog W = .ok (.agg #[.slice none 0 0, .int .i64 0, .int .i64 0]) W := by kernel_rfl
theorem is51 : (Try.prog.underlying 51).isSome = true := by kernel_rfl
theorem sz51 : (Try.prog.info? 51).map (·.size) = some 3 := by kernel_rfl
theorem zz51 (W : World) : (zeroValue 51).run Try.prog W = .ok (.agg #[.int .i64 0, .int .u64 0, .int .i64 0]) W := by kernel_rfl
theorem is54 : (Try.prog.underlying 54).isSome = true := by kernel_rfl
theorem sz54 : (Try.prog.info? 54).map (·.size) = some 1 := by kernel_rfl
theorem zz54 (W : World) : (zeroValue 54).run Try.prog W = .ok (.int .u32 0) W := by kernel_rfl
theorem is59 : (Try.prog.underlying 59).isSome = true := by kernel_rfl
theorem sz59 : (Try.prog.info? 59).map (·.size) = some 1 := by kernel_rfl
theorem zz59 (W : World) : (zeroValue 59).run Try.prog W = .ok (.nilFunc) W := by kernel_rfl
theorem is63 : (Try.prog.underlying 63).isSome = true := by kernel_rfl
theorem sz63 : (Try.prog.info? 63).map (·.size) = some 1 := by kernel_rfl
theorem zz63 (W : World) : (zeroValue 63).run Try.prog W = .ok (.agg #[.slice none 0 0]) W := by kernel_rfl
theorem is68 : (Try.prog.underlying 68).isSome = true := by kernel_rfl
theorem sz68 : (Try.prog.info? 68).map (·.size) = some 3 := by kernel_rfl
theorem zz68 (W : World) : (zeroValue 68).run Try.prog W = .ok (.agg #[.slice none 0 0, .int .i64 0, .int .i64 0]) W := by kernel_rfl
theorem is70 : (Try.prog.underlying 70).isSome = true := by kernel_rfl
theorem sz70 : (Try.prog.info? 70).map (·.size) = some 1 := by kernel_rfl
theorem zz70 (W : World) : (zeroValue 70).run Try.prog W = .ok (.int .u64 0) W := by kernel_rfl
theorem is73 : (Try.prog.underlying 73).isSome = true := by kernel_rfl
theorem sz73 : (Try.prog.info? 73).map (·.size) = some 1 := by kernel_rfl
end Go.Proofs.Ytcbnhmcfdpcbhaa
