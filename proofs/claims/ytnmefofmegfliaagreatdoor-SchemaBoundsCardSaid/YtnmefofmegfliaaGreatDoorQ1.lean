/- Closed facts of the row, by the kernel: no condition. -/
import Derived.Test.YtnmefofmegfliaaGreatDoorRows
import Derived.Test.YtnmefofmegfliaaGreatDoorA2
import Derived.Lib.LaidTab
set_option linter.unusedVariables false
set_option linter.unusedSimpArgs false
set_option linter.unusedSectionVars false
namespace Go.Proofs.YtnmefofmegfliaaGreatDoor.SchemaBounds
open Go Go.L Go.RowKit Go.Proofs Go.ChangeShapes Go.WideShapes Go.ChangeAt
set_option maxRecDepth 100000
def laid : List (String × DataW Unit) := [("internal/strconv.uint64pow10", Rows.laid_internal_strconv_uint64pow10), ("math/bits.deBruijn32tab", Rows.laid_math_bits_deBruijn32tab), ("math/bits.deBruijn64tab", Rows.laid_math_bits_deBruijn64tab), ("unicode/utf8.first", Rows.laid_unicode_utf8_first), ("unicode/utf8.acceptRanges", Rows.laid_unicode_utf8_acceptRanges), ("strconv.ErrSyntax", Rows.laid_strconv_ErrSyntax), ("strconv.ErrRange", Rows.laid_strconv_ErrRange)]
def wit : Array Value := #[.int .i64 0, .int .i64 0, .int .i64 0]
end Go.Proofs.YtnmefofmegfliaaGreatDoor.SchemaBounds
namespace Go.Proofs.YtnmefofmegfliaaGreatDoor.SchemaBounds
open Go Go.L Go.RowKit Go.Proofs Go.ChangeShapes Go.WideShapes Go.ChangeAt
set_option maxRecDepth 100000
theorem q_ok (os : Os) : Input.okWideB Tryz.checked.prog ((World.laidAll Tryz.prog os laid).forCall (fun _ _ => 0) { blocks := #[], args := wit }) 3 { blocks := #[], args := wit } = true := by kernel_rfl
end Go.Proofs.YtnmefofmegfliaaGreatDoor.SchemaBounds
namespace Go.Proofs.YtnmefofmegfliaaGreatDoor.SchemaBounds
open Go Go.L Go.RowKit Go.Proofs Go.ChangeShapes Go.WideShapes Go.ChangeAt
set_option maxRecDepth 100000
theorem q_pre {H : Type} (enc : TypeId × Value → H) (os : Os) : ChangeSpec.preB enc Tryz.checked.prog Tryz.f3 Rows.schemaBoundsSpec Rows.schemaBoundsRow.domain false ((World.laidAll Tryz.prog os laid).forCall (fun _ _ => 0) { blocks := #[], args := wit }).memory wit 8 = true := by kernel_rfl
end Go.Proofs.YtnmefofmegfliaaGreatDoor.SchemaBounds
namespace Go.Proofs.YtnmefofmegfliaaGreatDoor.SchemaBounds
open Go Go.L Go.RowKit Go.Proofs Go.ChangeShapes Go.WideShapes Go.ChangeAt
set_option maxRecDepth 100000
theorem q_sized {H : Type} (enc : TypeId × Value → H) (os : Os) : ChangeSpec.sizedB enc Tryz.checked.prog Tryz.f3 Rows.schemaBoundsSpec false ((World.laidAll Tryz.prog os laid).forCall (fun _ _ => 0) { blocks := #[], args := wit }).memory wit 8 = true := by kernel_rfl
end Go.Proofs.YtnmefofmegfliaaGreatDoor.SchemaBounds
