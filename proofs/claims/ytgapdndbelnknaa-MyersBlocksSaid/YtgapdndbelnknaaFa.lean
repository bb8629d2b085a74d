/-
  Sizes and zeros of the seat's types.
-/
import Derived.Test.YtgapdndbelnknaaZg
import Derived.Test.YtgapdndbelnknaaZh
import Derived.Test.YtgapdndbelnknaaZj
import Derived.Test.YtgapdndbelnknaaRows
namespace Go.Proofs.Ytgapdndbelnknaa
open Go.RowKit Zk Zx
set_option linter.unusedVariables false
set_option linter.unusedSimpArgs false
theorem hmix : Try.prog.follows .mixedOrders = true := by kernel_rfl
theorem is0 : (Try.prog.underlying 0).isSome = true := by kernel_rfl
theorem sz0 : (Try.prog.info? 0).map (·.size) = some 1 := by kernel_rfl
theorem is1 : (Try.prog.underlying 1).isSome = true := by kernel_rfl
theorem sz1 : (Try.prog.info? 1).map (·.size) = some 1 := by kernel_rfl
theorem zz1 (W : World) : (zeroValue 1).run Try.prog W = .ok (.nilFunc) W := by kernel_rfl
theorem is2 : (Try.prog.underlying 2).isSome = true := by kernel_rfl
theorem sz2 : (Try.prog.info? 2).map (·.size) = some 1 := by kernel_rfl
theorem zz2 (W : World) : (zeroValue 2).run Try.prog W = .ok (.int .i64 0) W := by kernel_rfl
theorem is3 : (Try.prog.underlying 3).isSome = true := by kernel_rfl
theorem sz3 : (Try.prog.info? 3).map (·.size) = some 1 := by kernel_rfl
theorem zz3 (W : World) : (zeroValue 3).run Try.prog W = .ok (.int .i64 0) W := by kernel_rfl
theorem is4 : (Try.prog.underlying 4).isSome = true := by kernel_rfl
theorem sz4 : (Try.prog.info? 4).map (·.size) = some 1 := by kernel_rfl
theorem zz4 (W : World) : (zeroValue 4).run Try.prog W = .ok (.bool false) W := by kernel_rfl
theorem is22 : (Try.prog.underlying 22).isSome = true := by kernel_rfl
theorem sz22 : (Try.prog.info? 22).map (·.size) = some 1 := by kernel_rfl
theorem zz22 (W : World) : (zeroValue 22).run Try.prog W = .ok (.slice none 0 0) W := by kernel_rfl
theorem te22 : Elem Try.prog 22 3 (.int .i64 0) 1 8 := ⟨Try.underlying22, by kernel_rfl, rfl, by decide⟩
theorem is25 : (Try.prog.underlying 25).isSome = true := by kernel_rfl
theorem sz25 : (Try.prog.info? 25).map (·.size) = some 1 := by kernel_rfl
theorem zz25 (W : World) : (zeroValue 25).run Try.prog W = .ok (.slice none 0 0) W := by kernel_rfl
theorem te25 : Elem Try.prog 25 36 (.agg #[.int .i64 0, .int .i64 0]) 2 16 := ⟨Try.underlying25, by kernel_rfl, rfl, by decide⟩
theorem is26 : (Try.prog.underlying 26).isSome = true := by kernel_rfl
theorem sz26 : (Try.prog.info? 26).map (·.size) = some 1 := by kernel_rfl
theorem zz26 (W : World) : (zeroValue 26).run Try.prog W = .ok (.int .i64 0) W := by kernel_rfl
theorem is27 : (Try.prog.underlying 27).isSome = true := by kernel_rfl
theorem sz27 : (Try.prog.info? 27).map (·.size) = some 1 := by kernel_rfl
theorem is31 : (Try.prog.underlying 31).isSome = true := by kernel_rfl
theorem sz31 : (Try.prog.info? 31).map (·.size) = some 1 := by kernel_rfl
theorem is36 : (Try.prog.underlying 36).isSome = true := by kernel_rfl
theorem sz36 : (Try.prog.info? 36).map (·.size) = some 2 := by kernel_rfl
theorem zz36 (W : World) : (zeroValue 36).run Try.prog W = .ok (.agg #[.int .i64 0, .int .i64 0]) W := by kernel_rfl
theorem is37 : (Try.prog.underlying 37).isSome = true := by kernel_rfl
theorem sz37 : (Try.prog.info? 37).map (·.size) = some 1 := by kernel_rfl
theorem zz37 (W : World) : (zeroValue 37).run Try.prog W = .ok (.int .u16 0) W := by kernel_rfl
theorem is38 : (Try.prog.underlying 38).isSome = true := by kernel_rfl
theorem sz38 : (Try.prog.info? 38).map (·.size) = some 1 := by kernel_rfl
theorem zz38 (W : World) : (zeroValue 38).run Try.prog W = .ok (.slice none 0 0) W := by kernel_rfl
theorem te38 : Elem Try.prog 38 52 (.agg #[.int .i64 0, .int .i64 0, .int .i64 0, .int .i64 0]) 4 32 := ⟨Try.underlying38, by kernel_rfl, rfl, by decide⟩
theorem is39 : (Try.prog.underlying 39).isSome = true := by kernel_rfl
theorem sz39 : (Try.prog.info? 39).map (·.size) = some 1 := by kernel_rfl
theorem is44 : (Try.prog.underlying 44).isSome = true := by kernel_rfl
theorem sz44 : (Try.prog.info? 44).map (·.size) = some 1 := by kernel_rfl
theorem zz44 (W : World) : (zeroValue 44).run Try.prog W = .ok (.pointer none) W := by kernel_rfl
theorem is45 : (Try.prog.underlying 45).isSome = true := by kernel_rfl
theorem sz45 : (Try.prog.info? 45).map (·.size) = some 1 := by kernel_rfl
theorem is48 : (Try.prog.underlying 48).isSome = true := by kernel_rfl
theorem sz48 : (Try.prog.info? 48).map (·.size) = some 1 := by kernel_rfl
theorem zz48 (W : World) : (zeroValue 48).run Try.prog W = .ok (.slice none 0 0) W := by kernel_rfl
theorem te48 : Elem Try.prog 48 22 (.slice none 0 0) 1 24 := ⟨Try.underlying48, by kernel_rfl, rfl, by decide⟩
theorem is52 : (Try.prog.underlying 52).isSome = true := by kernel_rfl
theorem sz52 : (Try.prog.info? 52).map (·.size) = some 4 := by kernel_rfl
theorem zz52 (W : World) : (zeroValue 52).run Try.prog W = .ok (.agg #[.int .i64 0, .int .i64 0, .int .i64 0, .int .i64 0]) W := by kernel_rfl
theorem is54 : (Try.prog.underlying 54).isSome = true := by kernel_rfl
theorem sz54 : (Try.prog.info? 54).map (·.size) = some 4 := by kernel_rfl
theorem zz54 (W : World) : (zeroValue 54).run Try.prog W = .ok (.agg #[.slice none 0 0, .slice none 0 0, .slice none 0 0, .slice none 0 0]) W := by kernel_rfl
end Go.Proofs.Ytgapdndbelnknaa
