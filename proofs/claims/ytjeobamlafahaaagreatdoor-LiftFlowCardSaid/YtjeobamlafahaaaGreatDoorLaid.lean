/- The program's types and variables are laid out. -/
import Derived.Test.YtjeobamlafahaaaGreatDoorRows
import Derived.JoinedOf
import Derived.KernelRfl

section
namespace Go.Ev
open Go Go.Proofs Go.Proofs.YtjeobamlafahaaaGreatDoor
set_option maxRecDepth 1000000
theorem all_range'_add (p : Nat → Bool) (a n m : Nat) (h : (List.range' a n).all p = true) (k : (List.range' (a + n) m).all p = true) : (List.range' a (n + m)).all p = true := by
  rw [← List.range'_append_1, List.all_append, h, k]; rfl
theorem laid0 : (List.range' 0 60).all (rowFine Tryz.pinned.checked.prog) = true := by kernel_rfl
theorem laid1 : (List.range' 60 60).all (rowFine Tryz.pinned.checked.prog) = true := by kernel_rfl
theorem laid2 : (List.range' 120 60).all (rowFine Tryz.pinned.checked.prog) = true := by kernel_rfl
theorem laid3 : (List.range' 180 60).all (rowFine Tryz.pinned.checked.prog) = true := by kernel_rfl
theorem laid4 : (List.range' 240 60).all (rowFine Tryz.pinned.checked.prog) = true := by kernel_rfl
theorem laid5 : (List.range' 300 60).all (rowFine Tryz.pinned.checked.prog) = true := by kernel_rfl
theorem laid6 : (List.range' 360 60).all (rowFine Tryz.pinned.checked.prog) = true := by kernel_rfl
theorem laid7 : (List.range' 420 60).all (rowFine Tryz.pinned.checked.prog) = true := by kernel_rfl
theorem laid8 : (List.range' 480 60).all (rowFine Tryz.pinned.checked.prog) = true := by kernel_rfl
theorem laid9 : (List.range' 540 60).all (rowFine Tryz.pinned.checked.prog) = true := by kernel_rfl
theorem laid10 : (List.range' 600 60).all (rowFine Tryz.pinned.checked.prog) = true := by kernel_rfl
theorem laid11 : (List.range' 660 60).all (rowFine Tryz.pinned.checked.prog) = true := by kernel_rfl
theorem laid12 : (List.range' 720 21).all (rowFine Tryz.pinned.checked.prog) = true := by kernel_rfl
theorem types_n : Tryz.pinned.checked.prog.types.size = 741 := by kernel_rfl
theorem laid_types : (List.range Tryz.pinned.checked.prog.types.size).all (rowFine Tryz.pinned.checked.prog) = true := by
  rw [types_n, List.range_eq_range']
  refine all_range'_add _ 0 60 681 laid0 ?_
  refine all_range'_add _ 60 60 621 laid1 ?_
  refine all_range'_add _ 120 60 561 laid2 ?_
  refine all_range'_add _ 180 60 501 laid3 ?_
  refine all_range'_add _ 240 60 441 laid4 ?_
  refine all_range'_add _ 300 60 381 laid5 ?_
  refine all_range'_add _ 360 60 321 laid6 ?_
  refine all_range'_add _ 420 60 261 laid7 ?_
  refine all_range'_add _ 480 60 201 laid8 ?_
  refine all_range'_add _ 540 60 141 laid9 ?_
  refine all_range'_add _ 600 60 81 laid10 ?_
  refine all_range'_add _ 660 60 21 laid11 ?_
  exact laid12
theorem laid_globals : Tryz.pinned.checked.prog.globals.all (fun g => decide (g.type < Tryz.pinned.checked.prog.types.size)) = true := by rw [types_n]; kernel_rfl
theorem laid_params : Tryz.pinned.checked.prog.funcs.all (fun f => f.params.all fun t => decide (t < Tryz.pinned.checked.prog.types.size)) = true := by rw [types_n]; kernel_rfl
theorem laid_out : laidOutB Tryz.pinned.checked.prog = true := by unfold laidOutB; rw [laid_types, laid_globals, laid_params]; rfl
end Go.Ev
end
