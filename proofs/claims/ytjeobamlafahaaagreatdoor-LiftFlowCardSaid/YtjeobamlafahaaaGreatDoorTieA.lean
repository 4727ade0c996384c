/- Hypotheses of the tie. -/
import Derived.Test.YtjeobamlafahaaaGreatDoorRows
import Derived.LaidByTextLater
import Derived.SevenTiedAt
import Derived.KernelRfl

section
/- Parts of the tie. -/
namespace Go.Proofs.YtjeobamlafahaaaGreatDoor
open Go
set_option maxRecDepth 1000000
theorem tie_hw  : Tryz.prog.worded (varsWordLater true) = true := by kernel_rfl
theorem tie_hw2  : Tryz.prog.worded (varsWordLater !true) = false := by kernel_rfl
theorem tie_hroot  : Tryz.prog.worded rootWordLater = true := by kernel_rfl
theorem tie_hk  : ([("unicode/utf8.acceptRanges", Rows.laid_unicode_utf8_acceptRanges)] : List (String × DataW Unit)).map (fun x => Tryz.prog.kindOfLater x.1) = [LaidKind.data].map some := by kernel_rfl
theorem tie_hg  : (Tryz.prog.funcNamed "gosem.cut.vars").isSome = true := by kernel_rfl
theorem tie_pin  : Tryz.pinned.checked.prog.pinnedFits "unicode/utf8.first" = true := by kernel_rfl
theorem tie_noOwnUnsafe  : Tryz.pinned.checked.prog.headLifts.contains "ownunsafe" = false := by kernel_rfl
end Go.Proofs.YtjeobamlafahaaaGreatDoor
end
