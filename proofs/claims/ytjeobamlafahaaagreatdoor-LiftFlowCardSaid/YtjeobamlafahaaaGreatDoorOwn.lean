/- THE CARD OF LiftFlow: LiftFlow returns true at every argument, and changes nothing that was there. -/
import Derived.Test.YtjeobamlafahaaaGreatDoorHolds
import Derived.Test.YtjeobamlafahaaaGreatDoorTieA
import Derived.Test.YtjeobamlafahaaaGreatDoorTieB
import Derived.Test.YtjeobamlafahaaaGreatDoorGoes
import Derived.Test.YtjeobamlafahaaaGreatDoorCards

section
/- The card of LiftFlow. -/
namespace Go.Proofs.YtjeobamlafahaaaGreatDoor
open Go Go.Ev
set_option maxRecDepth 1000000
theorem own_fits1 : Tryz.pinned.checked.prog.listedFits [("unicode/utf8.first", Rows.laid_unicode_utf8_first), ("unicode/utf8.acceptRanges", Rows.laid_unicode_utf8_acceptRanges)] = true := by
  unfold Program.listedFits
  rw [tie_noOwnUnsafe]
  kernel_rfl
theorem own_tie : Tryz.prog.laidByTextLater [("unicode/utf8.acceptRanges", Rows.laid_unicode_utf8_acceptRanges)] [.data] true :=
  Program.laidByTextLater_by_run 400 8 tie_hw tie_hw2 tie_hroot tie_hk tie_hg tie_hn tie_hd tie_h1 tie_h2
theorem own_row_tie : Rows.liftFlowRow.laidByTextAt .later Tryz.pinned [.pinned, .data] true :=
  OpenClaim.laidByTextAt_pinned rfl rfl own_tie rfl rfl rfl rfl (fun y hy _e => by
    simp only [Rows.liftFlowRow, List.zip_cons_cons, List.zip_nil_right, List.mem_cons, List.mem_nil_iff, or_false] at hy
    rcases hy with rfl | rfl
    · exact ⟨tie_pin, by kernel_rfl⟩
    · cases _e) own_fits1
/-- THE CARD -/
theorem liftFlow_card : Rows.LiftFlowCardSaid :=
  Claim7.holds_tied_plain_at .later [] [.pinned, .data] true (true, "649963bbee80c9bd570541aeedd0a8a387d2eadb90118e931efdb7e22d9e8823") true liftFlow_holds (fun _ h => by cases h) (by kernel_rfl) (fun _ h => by cases h) own_row_tie rfl ⟨rfl, rfl⟩ (by kernel_rfl) rfl
    (fun f fn hf hfn => by
      obtain rfl : f = 3 := (Option.some.inj (own_named.symm.trans hf)).symm
      obtain rfl : fn = Tryz.f3 := (Option.some.inj (Tryz.func3.symm.trans hfn)).symm
      exact ⟨by kernel_rfl, fun j t ht => by
        rw [Tryz.params3] at ht
        have hm : t ∈ [3] := by simpa using Array.mem_of_getElem? ht
        have hall : ([3].all fun u => !Tryz.pinned.checked.prog.wantsStandIn u) = true := by kernel_rfl
        exact (show Tryz.pinned.checked.prog.wantsStandIn t = false by simpa using List.all_eq_true.1 hall t hm)⟩)
    own_goes
#print axioms liftFlow_card
end Go.Proofs.YtjeobamlafahaaaGreatDoor
end
