/-
  Sizes and zeros of the seat's types.
-/
import Derived.Test.YtpcgldkllnkaeaaZg
import Derived.Test.YtpcgldkllnkaeaaZh
import Derived.Test.YtpcgldkllnkaeaaZj
import Derived.Test.YtpcgldkllnkaeaaZc
import Derived.Test.YtpcgldkllnkaeaaRows
namespace Go.Proofs.Ytpcgldkllnkaeaa
open Go.RowKit Zk Zx
set_option linter.unusedVariables false
set_option linter.unusedSimpArgs false
theorem hmix : Try.prog.follows .mixedOrders = true := by kernel_rfl
theorem is0 : (Try.prog.underlying 0).isSome = true := by kernel_rfl
theorem sz0 : (Try.prog.info? 0).map (·.size) = some 1 := by kernel_rfl
theorem is1 : (Try.prog.underlying 1).isSome = true := by kernel_rfl
theorem sz1 : (Try.prog.info? 1).map (·.size) = some 1 := by kernel_rfl
theorem zz1 (W : World) : (zeroValue 1).run Try.prog W = .ok (.nilFunc) W := by kernel_rfl
theorem is2 : (Try.prog.underlying 2).isSome = true := by kernel_rfl
theorem sz2 : (Try.prog.info? 2).map (·.size) = some 1 := by kernel_rfl
theorem zz2 (W : World) : (zeroValue 2).run Try.prog W = .ok (.int .i64 0) W := by kernel_rfl
theorem is3 : (Try.prog.underlying 3).isSome = true := by kernel_rfl
theorem sz3 : (Try.prog.info? 3).map (·.size) = some 1 := by kernel_rfl
theorem zz3 (W : World) : (zeroValue 3).run Try.prog W = .ok (.int .i64 0) W := by kernel_rfl
theorem is4 : (Try.prog.underlying 4).isSome = true := by kernel_rfl
theorem sz4 : (Try.prog.info? 4).map (·.size) = some 1 := by kernel_rfl
theorem zz4 (W : World) : (zeroValue 4).run Try.prog W = .ok (.bool false) W := by kernel_rfl
theorem is5 : (Try.prog.underlying 5).isSome = true := by kernel_rfl
theorem sz5 : (Try.prog.info? 5).map (·.size) = some 1 := by kernel_rfl
theorem zz5 (W : World) : (zeroValue 5).run Try.prog W = .ok (.int .u8 0) W := by kernel_rfl
theorem is9 : (Try.prog.underlying 9).isSome = true := by kernel_rfl
theorem sz9 : (Try.prog.info? 9).map (·.size) = some 1 := by kernel_rfl
theorem zz9 (W : World) : (zeroValue 9).run Try.prog W = .ok (.string ⟨#[]⟩) W := by kernel_rfl
theorem is12 : (Try.prog.underlying 12).isSome = true := by kernel_rfl
theorem sz12 : (Try.prog.info? 12).map (·.size) = some 1 := by kernel_rfl
theorem zz12 (W : World) : (zeroValue 12).run Try.prog W = .ok (.int .u64 0) W := by kernel_rfl
theorem is22 : (Try.prog.underlying 22).isSome = true := by kernel_rfl
theorem sz22 : (Try.prog.info? 22).map (·.size) = some 1 := by kernel_rfl
theorem zz22 (W : World) : (zeroValue 22).run Try.prog W = .ok (.slice none 0 0) W := by kernel_rfl
theorem te22 : Elem Try.prog 22 5 (.int .u8 0) 1 1 := ⟨Try.underlying22, by kernel_rfl, rfl, by decide⟩
theorem is23 : (Try.prog.underlying 23).isSome = true := by kernel_rfl
theorem sz23 : (Try.prog.info? 23).map (·.size) = some 1 := by kernel_rfl
theorem zz23 (W : World) : (zeroValue 23).run Try.prog W = .ok (.slice none 0 0) W := by kernel_rfl
theorem te23 : Elem Try.prog 23 57 (.agg #[.bool false, .int .i64 0, .int .i64 0, .slice none 0 0]) 4 48 := ⟨Try.underlying23, by kernel_rfl, rfl, by decide⟩
theorem is25 : (Try.prog.underlying 25).isSome = true := by kernel_rfl
theorem sz25 : (Try.prog.info? 25).map (·.size) = some 3 := by kernel_rfl
theorem zz25 (W : World) : (zeroValue 25).run Try.prog W = .ok (.agg #[.int .i64 0, .int .i64 0, .slice none 0 0]) W := by kernel_rfl
theorem is28 : (Try.prog.underlying 28).isSome = true := by kernel_rfl
theorem sz28 : (Try.prog.info? 28).map (·.size) = some 1 := by kernel_rfl
theorem zz28 (W : World) : (zeroValue 28).run Try.prog W = .ok (.slice none 0 0) W := by kernel_rfl
theorem te28 : Elem Try.prog 28 58 (.agg #[.bool false, .int .i64 0, .int .i64 0, .slice none 0 0]) 4 48 := ⟨Try.underlying28, by kernel_rfl, rfl, by decide⟩
theorem is30 : (Try.prog.underlying 30).isSome = true := by kernel_rfl
theorem sz30 : (Try.prog.info? 30).map (·.size) = some 3 := by kernel_rfl
theorem zz30 (W : World) : (zeroValue 30).run Try.prog W = .ok (.agg #[.int .i64 0, .int .i64 0, .slice none 0 0]) W := by kernel_rfl
theorem is32 : (Try.prog.underlying 32).isSome = true := by kernel_rfl
theorem sz32 : (Try.prog.info? 32).map (·.size) = some 1 := by kernel_rfl
theorem zz32 (W : World) : (zeroValue 32).run Try.prog W = .ok (.int .i64 0) W := by kernel_rfl
theorem is33 : (Try.prog.underlying 33).isSome = true := by kernel_rfl
theorem sz33 : (Try.prog.info? 33).map (·.size) = some 1 := by kernel_rfl
theorem is35 : (Try.prog.underlying 35).isSome = true := by kernel_rfl
theorem sz35 : (Try.prog.info? 35).map (·.size) = some 1 := by kernel_rfl
theorem is40 : (Try.prog.underlying 40).isSome = true := by kernel_rfl
theorem sz40 : (Try.prog.info? 40).map (·.size) = some 1 := by kernel_rfl
theorem is42 : (Try.prog.underlying 42).isSome = true := by kernel_rfl
theorem sz42 : (Try.prog.info? 42).map (·.size) = some 1 := by kernel_rfl
theorem is57 : (Try.prog.underlying 57).isSome = true := by kernel_rfl
theorem sz57 : (Try.prog.info? 57).map (·.size) = some 4 := by kernel_rfl
theorem zz57 (W : World) : (zeroValue 57).run Try.prog W = .ok (.agg #[.bool false, .int .i64 0, .int .i64 0, .slice none 0 0]) W := by kernel_rfl
theorem is58 : (Try.prog.underlying 58).isSome = true := by kernel_rfl
theorem sz58 : (Try.prog.info? 58).map (·.size) = some 4 := by kernel_rfl
theorem zz58 (W : World) : (zeroValue 58).run Try.prog W = .ok (.agg #[.bool false, .int .i64 0, .int .i64 0, .slice none 0 0]) W := by kernel_rfl
theorem is62 : (Try.prog.underlying 62).isSome = true := by kernel_rfl
theorem sz62 : (Try.prog.info? 62).map (·.size) = some 1 := by kernel_rfl
theorem zz62 (W : World) : (zeroValue 62).run Try.prog W = .ok (.pointer none) W := by kernel_rfl
theorem is65 : (Try.prog.underlying 65).isSome = true := by kernel_rfl
theorem sz65 : (Try.prog.info? 65).map (·.size) = some 1 := by kernel_rfl
theorem zz65 (W : World) : (zeroValue 65).run Try.prog W = .ok (.int .u64 0) W := by kernel_rfl
theorem is66 : (Try.prog.underlying 66).isSome = true := by kernel_rfl
theorem sz66 : (Try.prog.info? 66).map (·.size) = some 1 := by kernel_rfl
theorem zz66 (W : World) : (zeroValue 66).run Try.prog W = .ok (.nilFunc) W := by kernel_rfl
theorem is74 : (Try.prog.underlying 74).isSome = true := by kernel_rfl
theorem sz74 : (Try.prog.info? 74).map (·.size) = some 1 := by kernel_rfl
theorem zz74 (W : World) : (zeroValue 74).run Try.prog W = .ok (.map none) W := by kernel_rfl
theorem is77 : (Try.prog.underlying 77).isSome = true := by kernel_rfl
theorem sz77 : (Try.prog.info? 77).map (·.size) = some 1 := by kernel_rfl
theorem zz77 (W : World) : (zeroValue 77).run Try.prog W = .ok (.nilFunc) W := by kernel_rfl
theorem is78 : (Try.prog.underlying 78).isSome = true := by kernel_rfl
theorem sz78 : (Try.prog.info? 78).map (·.size) = some 1 := by kernel_rfl
theorem is80 : (Try.prog.underlying 80).isSome = true := by kernel_rfl
theorem sz80 : (Try.prog.info? 80).map (·.size) = some 1 := by kernel_rfl
theorem zz80 (W : World) : (zeroValue 80).run Try.prog W = .ok (.pointer none) W := by kernel_rfl
theorem is84 : (Try.prog.underlying 84).isSome = true := by kernel_rfl
theorem sz84 : (Try.prog.info? 84).map (·.size) = some 1 := by kernel_rfl
theorem is86 : (Try.prog.underlying 86).isSome = true := by kernel_rfl
theorem sz86 : (Try.prog.info? 86).map (·.size) = some 1 := by kernel_rfl
theorem zz86 (W : World) : (zeroValue 86).run Try.prog W = .ok (.pointer none) W := by kernel_rfl
theorem is88 : (Try.prog.underlying 88).isSome = true := by kernel_rfl
theorem sz88 : (Try.prog.info? 88).map (·.size) = some 3 := by kernel_rfl
theorem zz88 (W : World) : (zeroValue 88).run Try.prog W = .ok (.agg #[.slice none 0 0, .int .i64 0, .int .i64 0]) W := by kernel_rfl
theorem is93 : (Try.prog.underlying 93).isSome = true := by kernel_rfl
theorem sz93 : (Try.prog.info? 93).map (·.size) = some 1 := by kernel_rfl
theorem zz93 (W : World) : (zeroValue 93).run Try.prog W = .ok (.agg #[.slice none 0 0]) W := by kernel_rfl
theorem is94 : (Try.prog.underlying 94).isSome = true := by kernel_rfl
theorem sz94 : (Try.prog.info? 94).map (·.size) = some 1 := by kernel_rfl
theorem zz94 (W : World) : (zeroValue 94).run Try.prog W = .ok (.int .u64 0) W := by kernel_rfl
theorem is96 : (Try.prog.underlying 96).isSome = true := by kernel_rfl
theorem sz96 : (Try.prog.info? 96).map (·.size) = some 1 := by kernel_rfl
theorem zz96 (W : World) : (zeroValue 96).run Try.prog W = .ok (.slice none 0 0) W := by kernel_rfl
theorem te96 : Elem Try.prog 96 22 (.slice none 0 0) 1 24 := ⟨Try.underlying96, by kernel_rfl, rfl, by decide⟩
theorem is98 : (Try.prog.underlying 98).isSome = true := by kernel_rfl
theorem sz98 : (Try.prog.info? 98).map (·.size) = some 6 := by kernel_rfl
theorem zz98 (W : World) : (zeroValue 98).run Try.prog W = .ok (.agg #[.int .u8 0, .int .u8 0, .int .u8 0, .int .u8 0, .int .u8 0, .int .u8 0]) W := by kernel_rfl
theorem is99 : (Try.prog.underlying 99).isSome = true := by kernel_rfl
theorem sz99 : (Try.prog.info? 99).map (·.size) = some 1 := by kernel_rfl
theorem zz99 (W : World) : (zeroValue 99).run Try.prog W = .ok (.slice none 0 0) W := by kernel_rfl
theorem te99 : Elem Try.prog 99 3 (.int .i64 0) 1 8 := ⟨Try.underlying99, by kernel_rfl, rfl, by decide⟩
theorem is102 : (Try.prog.underlying 102).isSome = true := by kernel_rfl
theorem sz102 : (Try.prog.info? 102).map (·.size) = some 3 := by kernel_rfl
theorem zz102 (W : World) : (zeroValue 102).run Try.prog W = .ok (.agg #[.slice none 0 0, .int .i64 0, .int .i64 0]) W := by kernel_rfl
theorem is105 : (Try.prog.underlying 105).isSome = true := by kernel_rfl
theorem sz105 : (Try.prog.info? 105).map (·.size) = some 1 := by kernel_rfl
end Go.Proofs.Ytpcgldkllnkaeaa
