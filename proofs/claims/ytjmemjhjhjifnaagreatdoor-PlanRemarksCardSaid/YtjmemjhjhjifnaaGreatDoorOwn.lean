/- THE CARD OF PlanRemarks: PlanRemarks returns true at every argument, and changes nothing that was there. -/
import Derived.Test.YtjmemjhjhjifnaaGreatDoorHolds
import Derived.Test.YtjmemjhjhjifnaaGreatDoorTieA
import Derived.Test.YtjmemjhjhjifnaaGreatDoorTieB
import Derived.Test.YtjmemjhjhjifnaaGreatDoorGoes
import Derived.Test.YtjmemjhjhjifnaaGreatDoorCards

section
/- The card of PlanRemarks. -/
namespace Go.Proofs.YtjmemjhjhjifnaaGreatDoor
open Go Go.Ev
set_option maxRecDepth 1000000
theorem own_fits1 : Tryz.pinned.checked.prog.listedFits [("unicode/utf8.first", Rows.laid_unicode_utf8_first), ("unicode/utf8.acceptRanges", Rows.laid_unicode_utf8_acceptRanges)] = true := by
  unfold Program.listedFits
  rw [tie_noOwnUnsafe]
  kernel_rfl
theorem own_tie : Tryz.prog.laidByTextLater [("unicode/utf8.acceptRanges", Rows.laid_unicode_utf8_acceptRanges)] [.data] true :=
  Program.laidByTextLater_by_run 400 8 tie_hw tie_hw2 tie_hroot tie_hk tie_hg tie_hn tie_hd tie_h1 tie_h2
theorem own_row_tie : Rows.planRemarksRow.laidByTextAt .later Tryz.pinned [.pinned, .data] true :=
  OpenClaim.laidByTextAt_pinned rfl rfl own_tie rfl rfl rfl rfl (fun y hy _e => by
    simp only [Rows.planRemarksRow, List.zip_cons_cons, List.zip_nil_right, List.mem_cons, List.mem_nil_iff, or_false] at hy
    rcases hy with rfl | rfl
    · exact ⟨tie_pin, by kernel_rfl⟩
    · cases _e) own_fits1
/-- THE CARD -/
theorem planRemarks_card : Rows.PlanRemarksCardSaid :=
  Claim7.holds_tied_plain_at .later [] [.pinned, .data] true (true, "1adc7a9b2ab20f51b08d912daa12dd84a7051ff747fd1861641ba95a279ca539") true planRemarks_holds (fun _ h => by cases h) (by kernel_rfl) (fun _ h => by cases h) own_row_tie rfl ⟨rfl, rfl⟩ (by kernel_rfl) rfl
    (fun f fn hf hfn => by
      obtain rfl : f = 3 := (Option.some.inj (own_named.symm.trans hf)).symm
      obtain rfl : fn = Tryz.f3 := (Option.some.inj (Tryz.func3.symm.trans hfn)).symm
      exact ⟨by kernel_rfl, fun j t ht => by
        rw [Tryz.params3] at ht
        have hm : t ∈ [3, 4] := by simpa using Array.mem_of_getElem? ht
        have hall : ([3, 4].all fun u => !Tryz.pinned.checked.prog.wantsStandIn u) = true := by kernel_rfl
        exact (show Tryz.pinned.checked.prog.wantsStandIn t = false by simpa using List.all_eq_true.1 hall t hm)⟩)
    own_goes
#print axioms planRemarks_card
end Go.Proofs.YtjmemjhjhjifnaaGreatDoor
end
