/-
  Sizes and zeros of the seat's types.
-/
import Derived.Test.YtblbcmkhgjlpcaaZg
import Derived.Test.YtblbcmkhgjlpcaaZh
import Derived.Test.YtblbcmkhgjlpcaaZj
import Derived.Test.YtblbcmkhgjlpcaaRows
namespace Go.Proofs.Ytblbcmkhgjlpcaa
open Go.RowKit Zk Zx
set_option linter.unusedVariables false
set_option linter.unusedSimpArgs false
theorem hmix : Try.prog.follows .mixedOrders = true := by kernel_rfl
theorem is0 : (Try.prog.underlying 0).isSome = true := by kernel_rfl
theorem sz0 : (Try.prog.info? 0).map (·.size) = some 1 := by kernel_rfl
theorem is1 : (Try.prog.underlying 1).isSome = true := by kernel_rfl
theorem sz1 : (Try.prog.info? 1).map (·.size) = some 1 := by kernel_rfl
theorem zz1 (W : World) : (zeroValue 1).run Try.prog W = .ok (.nilFunc) W := by kernel_rfl
theorem is2 : (Try.prog.underlying 2).isSome = true := by kernel_rfl
theorem sz2 : (Try.prog.info? 2).map (·.size) = some 1 := by kernel_rfl
theorem zz2 (W : World) : (zeroValue 2).run Try.prog W = .ok (.int .i64 0) W := by kernel_rfl
theorem is3 : (Try.prog.underlying 3).isSome = true := by kernel_rfl
theorem sz3 : (Try.prog.info? 3).map (·.size) = some 1 := by kernel_rfl
theorem zz3 (W : World) : (zeroValue 3).run Try.prog W = .ok (.int .i64 0) W := by kernel_rfl
theorem is4 : (Try.prog.underlying 4).isSome = true := by kernel_rfl
theorem sz4 : (Try.prog.info? 4).map (·.size) = some 1 := by kernel_rfl
theorem zz4 (W : World) : (zeroValue 4).run Try.prog W = .ok (.bool false) W := by kernel_rfl
theorem is5 : (Try.prog.underlying 5).isSome = true := by kernel_rfl
theorem sz5 : (Try.prog.info? 5).map (·.size) = some 1 := by kernel_rfl
theorem zz5 (W : World) : (zeroValue 5).run Try.prog W = .ok (.int .u8 0) W := by kernel_rfl
theorem is9 : (Try.prog.underlying 9).isSome = true := by kernel_rfl
theorem sz9 : (Try.prog.info? 9).map (·.size) = some 1 := by kernel_rfl
theorem zz9 (W : World) : (zeroValue 9).run Try.prog W = .ok (.string ⟨#[]⟩) W := by kernel_rfl
theorem is23 : (Try.prog.underlying 23).isSome = true := by kernel_rfl
theorem sz23 : (Try.prog.info? 23).map (·.size) = some 32 := by kernel_rfl
theorem zz23 (W : World) : (zeroValue 23).run Try.prog W = .ok (.agg (Array.replicate 32 (.int .u8 0))) W := by kernel_rfl
theorem is24 : (Try.prog.underlying 24).isSome = true := by kernel_rfl
theorem sz24 : (Try.prog.info? 24).map (·.size) = some 1 := by kernel_rfl
theorem zz24 (W : World) : (zeroValue 24).run Try.prog W = .ok (.int .i64 0) W := by kernel_rfl
theorem is25 : (Try.prog.underlying 25).isSome = true := by kernel_rfl
theorem sz25 : (Try.prog.info? 25).map (·.size) = some 1 := by kernel_rfl
theorem is27 : (Try.prog.underlying 27).isSome = true := by kernel_rfl
theorem sz27 : (Try.prog.info? 27).map (·.size) = some 1 := by kernel_rfl
theorem is30 : (Try.prog.underlying 30).isSome = true := by kernel_rfl
theorem sz30 : (Try.prog.info? 30).map (·.size) = some 33 := by kernel_rfl
theorem zz30 (W : World) : (zeroValue 30).run Try.prog W = .ok (.agg #[.int .u8 0, .int .u8 0, .int .u8 0, .int .u8 0, .int .u8 0, .int .u8 0, .int .u8 0, .int .u8 0, .int .u8 0, .int .u8 0, .int .u8 0, .int .u8 0, .int .u8 0, .int .u8 0, .int .u8 0, .int .u8 0, .int .u8 0, .int .u8 0, .int .u8 0, .int .u8 0, .int .u8 0, .int .u8 0, .int .u8 0, .int .u8 0, .int .u8 0, .int .u8 0, .int .u8 0, .int .u8 0, .int .u8 0, .int .u8 0, .int .u8 0, .int .u8 0, .int .i64 0]) W := by kernel_rfl
theorem is31 : (Try.prog.underlying 31).isSome = true := by kernel_rfl
theorem sz31 : (Try.prog.info? 31).map (·.size) = some 1 := by kernel_rfl
theorem is33 : (Try.prog.underlying 33).isSome = true := by kernel_rfl
theorem sz33 : (Try.prog.info? 33).map (·.size) = some 1 := by kernel_rfl
theorem is42 : (Try.prog.underlying 42).isSome = true := by kernel_rfl
theorem sz42 : (Try.prog.info? 42).map (·.size) = some 1 := by kernel_rfl
theorem zz42 (W : World) : (zeroValue 42).run Try.prog W = .ok (.nilFunc) W := by kernel_rfl
theorem is44 : (Try.prog.underlying 44).isSome = true := by kernel_rfl
theorem sz44 : (Try.prog.info? 44).map (·.size) = some 1 := by kernel_rfl
theorem zz44 (W : World) : (zeroValue 44).run Try.prog W = .ok (.slice none 0 0) W := by kernel_rfl
theorem te44 : Elem Try.prog 44 23 (.agg (Array.replicate 32 (.int .u8 0))) 32 32 := ⟨Try.underlying44, by kernel_rfl, rfl, by decide⟩
theorem is46 : (Try.prog.underlying 46).isSome = true := by kernel_rfl
theorem sz46 : (Try.prog.info? 46).map (·.size) = some 67 := by kernel_rfl
theorem zz46 (W : World) : (zeroValue 46).run Try.prog W = .ok (.agg #[.slice none 0 0, .int .u8 0, .int .u8 0, .int .u8 0, .int .u8 0, .int .u8 0, .int .u8 0, .int .u8 0, .int .u8 0, .int .u8 0, .int .u8 0, .int .u8 0, .int .u8 0, .int .u8 0, .int .u8 0, .int .u8 0, .int .u8 0, .int .u8 0, .int .u8 0, .int .u8 0, .int .u8 0, .int .u8 0, .int .u8 0, .int .u8 0, .int .u8 0, .int .u8 0, .int .u8 0, .int .u8 0, .int .u8 0, .int .u8 0, .int .u8 0, .int .u8 0, .int .u8 0, .int .i64 0, .int .u8 0, .int .u8 0, .int .u8 0, .int .u8 0, .int .u8 0, .int .u8 0, .int .u8 0, .int .u8 0, .int .u8 0, .int .u8 0, .int .u8 0, .int .u8 0, .int .u8 0, .int .u8 0, .int .u8 0, .int .u8 0, .int .u8 0, .int .u8 0, .int .u8 0, .int .u8 0, .int .u8 0, .int .u8 0, .int .u8 0, .int .u8 0, .int .u8 0, .int .u8 0, .int .u8 0, .int .u8 0, .int .u8 0, .int .u8 0, .int .u8 0, .int .u8 0, .int .i64 0]) W := by kernel_rfl
theorem is47 : (Try.prog.underlying 47).isSome = true := by kernel_rfl
theorem sz47 : (Try.prog.info? 47).map (·.size) = some 1 := by kernel_rfl
theorem is54 : (Try.prog.underlying 54).isSome = true := by kernel_rfl
theorem sz54 : (Try.prog.info? 54).map (·.size) = some 1 := by kernel_rfl
theorem is60 : (Try.prog.underlying 60).isSome = true := by kernel_rfl
theorem sz60 : (Try.prog.info? 60).map (·.size) = some 1 := by kernel_rfl
theorem zz60 (W : World) : (zeroValue 60).run Try.prog W = .ok (.int .u64 0) W := by kernel_rfl
theorem is61 : (Try.prog.underlying 61).isSome = true := by kernel_rfl
theorem sz61 : (Try.prog.info? 61).map (·.size) = some 1 := by kernel_rfl
theorem zz61 (W : World) : (zeroValue 61).run Try.prog W = .ok (.slice none 0 0) W := by kernel_rfl
theorem te61 : Elem Try.prog 61 5 (.int .u8 0) 1 1 := ⟨Try.underlying61, by kernel_rfl, rfl, by decide⟩
theorem is62 : (Try.prog.underlying 62).isSome = true := by kernel_rfl
theorem sz62 : (Try.prog.info? 62).map (·.size) = some 1 := by kernel_rfl
theorem zz62 (W : World) : (zeroValue 62).run Try.prog W = .ok (.slice none 0 0) W := by kernel_rfl
theorem te62 : Elem Try.prog 62 3 (.int .i64 0) 1 8 := ⟨Try.underlying62, by kernel_rfl, rfl, by decide⟩
theorem is74 : (Try.prog.underlying 74).isSome = true := by kernel_rfl
theorem sz74 : (Try.prog.info? 74).map (·.size) = some 1 := by kernel_rfl
theorem zz74 (W : World) : (zeroValue 74).run Try.prog W = .ok (.int .i64 0) W := by kernel_rfl
theorem is75 : (Try.prog.underlying 75).isSome = true := by kernel_rfl
theorem sz75 : (Try.prog.info? 75).map (·.size) = some 1 := by kernel_rfl
theorem is81 : (Try.prog.underlying 81).isSome = true := by kernel_rfl
theorem sz81 : (Try.prog.info? 81).map (·.size) = some 1 := by kernel_rfl
theorem zz81 (W : World) : (zeroValue 81).run Try.prog W = .ok (.int .u32 0) W := by kernel_rfl
theorem is83 : (Try.prog.underlying 83).isSome = true := by kernel_rfl
theorem sz83 : (Try.prog.info? 83).map (·.size) = some 1 := by kernel_rfl
theorem zz83 (W : World) : (zeroValue 83).run Try.prog W = .ok (.int .u64 0) W := by kernel_rfl
theorem is84 : (Try.prog.underlying 84).isSome = true := by kernel_rfl
theorem sz84 : (Try.prog.info? 84).map (·.size) = some 1 := by kernel_rfl
theorem zz84 (W : World) : (zeroValue 84).run Try.prog W = .ok (.int .u64 0) W := by kernel_rfl
theorem is88 : (Try.prog.underlying 88).isSome = true := by kernel_rfl
theorem sz88 : (Try.prog.info? 88).map (·.size) = some 1 := by kernel_rfl
theorem zz88 (W : World) : (zeroValue 88).run Try.prog W = .ok (.pointer none) W := by kernel_rfl
theorem is90 : (Try.prog.underlying 90).isSome = true := by kernel_rfl
theorem sz90 : (Try.prog.info? 90).map (·.size) = some 1 := by kernel_rfl
theorem zz90 (W : World) : (zeroValue 90).run Try.prog W = .ok (.pointer none) W := by kernel_rfl
end Go.Proofs.Ytblbcmkhgjlpcaa
