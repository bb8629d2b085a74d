/-
  Sizes and zeros of the seat's types.
-/
import Derived.Test.YtaknmlajhedfhaaZg
import Derived.Test.YtaknmlajhedfhaaZh
import Derived.Test.YtaknmlajhedfhaaZj
import Derived.Test.YtaknmlajhedfhaaZp
import Derived.Test.YtaknmlajhedfhaaRows
namespace Go.Proofs.Ytaknmlajhedfhaa
open Go.RowKit Zk Zx
set_option linter.unusedVariables false
set_option linter.unusedSimpArgs false
theorem hmix : Try.prog.follows .mixedOrders = true := by kernel_rfl
theorem is0 : (Try.prog.underlying 0).isSome = true := by kernel_rfl
theorem sz0 : (Try.prog.info? 0).map (·.size) = some 1 := by kernel_rfl
theorem is1 : (Try.prog.underlying 1).isSome = true := by kernel_rfl
theorem sz1 : (Try.prog.info? 1).map (·.size) = some 1 := by kernel_rfl
theorem zz1 (W : World) : (zeroValue 1).run Try.prog W = .ok (.nilFunc) W := by kernel_rfl
theorem is2 : (Try.prog.underlying 2).isSome = true := by kernel_rfl
theorem sz2 : (Try.prog.info? 2).map (·.size) = some 1 := by kernel_rfl
theorem zz2 (W : World) : (zeroValue 2).run Try.prog W = .ok (.int .i64 0) W := by kernel_rfl
theorem is3 : (Try.prog.underlying 3).isSome = true := by kernel_rfl
theorem sz3 : (Try.prog.info? 3).map (·.size) = some 1 := by kernel_rfl
theorem zz3 (W : World) : (zeroValue 3).run Try.prog W = .ok (.int .i64 0) W := by kernel_rfl
theorem is4 : (Try.prog.underlying 4).isSome = true := by kernel_rfl
theorem sz4 : (Try.prog.info? 4).map (·.size) = some 1 := by kernel_rfl
theorem zz4 (W : World) : (zeroValue 4).run Try.prog W = .ok (.bool false) W := by kernel_rfl
theorem is5 : (Try.prog.underlying 5).isSome = true := by kernel_rfl
theorem sz5 : (Try.prog.info? 5).map (·.size) = some 1 := by kernel_rfl
theorem zz5 (W : World) : (zeroValue 5).run Try.prog W = .ok (.int .u8 0) W := by kernel_rfl
theorem is9 : (Try.prog.underlying 9).isSome = true := by kernel_rfl
theorem sz9 : (Try.prog.info? 9).map (·.size) = some 1 := by kernel_rfl
theorem zz9 (W : World) : (zeroValue 9).run Try.prog W = .ok (.string ⟨#[]⟩) W := by kernel_rfl
theorem is22 : (Try.prog.underlying 22).isSome = true := by kernel_rfl
theorem sz22 : (Try.prog.info? 22).map (·.size) = some 1 := by kernel_rfl
theorem zz22 (W : World) : (zeroValue 22).run Try.prog W = .ok (.slice none 0 0) W := by kernel_rfl
theorem te22 : Elem Try.prog 22 5 (.int .u8 0) 1 1 := ⟨Try.underlying22, by kernel_rfl, rfl, by decide⟩
theorem is28 : (Try.prog.underlying 28).isSome = true := by kernel_rfl
theorem sz28 : (Try.prog.info? 28).map (·.size) = some 1 := by kernel_rfl
theorem zz28 (W : World) : (zeroValue 28).run Try.prog W = .ok (.slice none 0 0) W := by kernel_rfl
theorem te28 : Elem Try.prog 28 33 (.agg #[.string ⟨#[]⟩, .int .i64 0]) 2 24 := ⟨Try.underlying28, by kernel_rfl, rfl, by decide⟩
theorem is30 : (Try.prog.underlying 30).isSome = true := by kernel_rfl
theorem sz30 : (Try.prog.info? 30).map (·.size) = some 1 := by kernel_rfl
theorem zz30 (W : World) : (zeroValue 30).run Try.prog W = .ok (.slice none 0 0) W := by kernel_rfl
theorem te30 : Elem Try.prog 30 34 (.agg #[.string ⟨#[]⟩, .int .i64 0]) 2 24 := ⟨Try.underlying30, by kernel_rfl, rfl, by decide⟩
theorem is33 : (Try.prog.underlying 33).isSome = true := by kernel_rfl
theorem sz33 : (Try.prog.info? 33).map (·.size) = some 2 := by kernel_rfl
theorem zz33 (W : World) : (zeroValue 33).run Try.prog W = .ok (.agg #[.string ⟨#[]⟩, .int .i64 0]) W := by kernel_rfl
theorem is34 : (Try.prog.underlying 34).isSome = true := by kernel_rfl
theorem sz34 : (Try.prog.info? 34).map (·.size) = some 2 := by kernel_rfl
theorem zz34 (W : World) : (zeroValue 34).run Try.prog W = .ok (.agg #[.string ⟨#[]⟩, .int .i64 0]) W := by kernel_rfl
theorem is36 : (Try.prog.underlying 36).isSome = true := by kernel_rfl
theorem sz36 : (Try.prog.info? 36).map (·.size) = some 1 := by kernel_rfl
theorem zz36 (W : World) : (zeroValue 36).run Try.prog W = .ok (.slice none 0 0) W := by kernel_rfl
theorem te36 : Elem Try.prog 36 22 (.slice none 0 0) 1 24 := ⟨Try.underlying36, by kernel_rfl, rfl, by decide⟩
theorem is38 : (Try.prog.underlying 38).isSome = true := by kernel_rfl
theorem sz38 : (Try.prog.info? 38).map (·.size) = some 1 := by kernel_rfl
theorem zz38 (W : World) : (zeroValue 38).run Try.prog W = .ok (.slice none 0 0) W := by kernel_rfl
theorem te38 : Elem Try.prog 38 43 (.agg #[.int .i64 0, .int .i64 0, .int .i64 0]) 3 24 := ⟨Try.underlying38, by kernel_rfl, rfl, by decide⟩
theorem is40 : (Try.prog.underlying 40).isSome = true := by kernel_rfl
theorem sz40 : (Try.prog.info? 40).map (·.size) = some 1 := by kernel_rfl
theorem zz40 (W : World) : (zeroValue 40).run Try.prog W = .ok (.slice none 0 0) W := by kernel_rfl
theorem te40 : Elem Try.prog 40 44 (.agg #[.int .i64 0, .int .i64 0, .int .i64 0]) 3 24 := ⟨Try.underlying40, by kernel_rfl, rfl, by decide⟩
theorem is43 : (Try.prog.underlying 43).isSome = true := by kernel_rfl
theorem sz43 : (Try.prog.info? 43).map (·.size) = some 3 := by kernel_rfl
theorem zz43 (W : World) : (zeroValue 43).run Try.prog W = .ok (.agg #[.int .i64 0, .int .i64 0, .int .i64 0]) W := by kernel_rfl
theorem is44 : (Try.prog.underlying 44).isSome = true := by kernel_rfl
theorem sz44 : (Try.prog.info? 44).map (·.size) = some 3 := by kernel_rfl
theorem zz44 (W : World) : (zeroValue 44).run Try.prog W = .ok (.agg #[.int .i64 0, .int .i64 0, .int .i64 0]) W := by kernel_rfl
theorem is48 : (Try.prog.underlying 48).isSome = true := by kernel_rfl
theorem sz48 : (Try.prog.info? 48).map (·.size) = some 1 := by kernel_rfl
theorem zz48 (W : World) : (zeroValue 48).run Try.prog W = .ok (.map none) W := by kernel_rfl
theorem is52 : (Try.prog.underlying 52).isSome = true := by kernel_rfl
theorem sz52 : (Try.prog.info? 52).map (·.size) = some 1 := by kernel_rfl
theorem zz52 (W : World) : (zeroValue 52).run Try.prog W = .ok (.nilFunc) W := by kernel_rfl
theorem is53 : (Try.prog.underlying 53).isSome = true := by kernel_rfl
theorem sz53 : (Try.prog.info? 53).map (·.size) = some 1 := by kernel_rfl
theorem zz53 (W : World) : (zeroValue 53).run Try.prog W = .ok (.slice none 0 0) W := by kernel_rfl
theorem te53 : Elem Try.prog 53 9 (.string ⟨#[]⟩) 1 16 := ⟨Try.underlying53, by kernel_rfl, rfl, by decide⟩
theorem is55 : (Try.prog.underlying 55).isSome = true := by kernel_rfl
theorem sz55 : (Try.prog.info? 55).map (·.size) = some 1 := by kernel_rfl
theorem zz55 (W : World) : (zeroValue 55).run Try.prog W = .ok (.slice none 0 0) W := by kernel_rfl
theorem te55 : Elem Try.prog 55 48 (.map none) 1 8 := ⟨Try.underlying55, by kernel_rfl, rfl, by decide⟩
theorem is58 : (Try.prog.underlying 58).isSome = true := by kernel_rfl
theorem sz58 : (Try.prog.info? 58).map (·.size) = some 1 := by kernel_rfl
theorem zz58 (W : World) : (zeroValue 58).run Try.prog W = .ok (.nilFunc) W := by kernel_rfl
theorem is61 : (Try.prog.underlying 61).isSome = true := by kernel_rfl
theorem sz61 : (Try.prog.info? 61).map (·.size) = some 1 := by kernel_rfl
theorem zz61 (W : World) : (zeroValue 61).run Try.prog W = .ok (.int .u64 0) W := by kernel_rfl
theorem is63 : (Try.prog.underlying 63).isSome = true := by kernel_rfl
theorem sz63 : (Try.prog.info? 63).map (·.size) = some 1 := by kernel_rfl
theorem zz63 (W : World) : (zeroValue 63).run Try.prog W = .ok (.slice none 0 0) W := by kernel_rfl
theorem te63 : Elem Try.prog 63 3 (.int .i64 0) 1 8 := ⟨Try.underlying63, by kernel_rfl, rfl, by decide⟩
theorem is66 : (Try.prog.underlying 66).isSome = true := by kernel_rfl
theorem sz66 : (Try.prog.info? 66).map (·.size) = some 1 := by kernel_rfl
theorem zz66 (W : World) : (zeroValue 66).run Try.prog W = .ok (.int .i64 0) W := by kernel_rfl
theorem is67 : (Try.prog.underlying 67).isSome = true := by kernel_rfl
theorem sz67 : (Try.prog.info? 67).map (·.size) = some 1 := by kernel_rfl
theorem is71 : (Try.prog.underlying 71).isSome = true := by kernel_rfl
theorem sz71 : (Try.prog.info? 71).map (·.size) = some 1 := by kernel_rfl
theorem is74 : (Try.prog.underlying 74).isSome = true := by kernel_rfl
theorem sz74 : (Try.prog.info? 74).map (·.size) = some 1 := by kernel_rfl
theorem zz74 (W : World) : (zeroValue 74).run Try.prog W = .ok (.int .u32 0) W := by kernel_rfl
theorem is76 : (Try.prog.underlying 76).isSome = true := by kernel_rfl
theorem sz76 : (Try.prog.info? 76).map (·.size) = some 1 := by kernel_rfl
theorem zz76 (W : World) : (zeroValue 76).run Try.prog W = .ok (.int .u64 0) W := by kernel_rfl
theorem is82 : (Try.prog.underlying 82).isSome = true := by kernel_rfl
theorem sz82 : (Try.prog.info? 82).map (·.size) = some 1 := by kernel_rfl
theorem zz82 (W : World) : (zeroValue 82).run Try.prog W = .ok (.int .u64 0) W := by kernel_rfl
theorem is86 : (Try.prog.underlying 86).isSome = true := by kernel_rfl
theorem sz86 : (Try.prog.info? 86).map (·.size) = some 1 := by kernel_rfl
theorem zz86 (W : World) : (zeroValue 86).run Try.prog W = .ok (.pointer none) W := by kernel_rfl
theorem is90 : (Try.prog.underlying 90).isSome = true := by kernel_rfl
theorem sz90 : (Try.prog.info? 90).map (·.size) = some 1 := by kernel_rfl
theorem zz90 (W : World) : (zeroValue 90).run Try.prog W = .ok (.pointer none) W := by kernel_rfl
theorem is91 : (Try.prog.underlying 91).isSome = true := by kernel_rfl
theorem sz91 : (Try.prog.info? 91).map (·.size) = some 1 := by kernel_rfl
end Go.Proofs.Ytaknmlajhedfhaa
