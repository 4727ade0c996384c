/- The row of PlanRemarks holds. -/
import Derived.Test.YtjmemjhjhjifnaaGreatDoorRow
import Derived.Test.YtjmemjhjhjifnaaGreatDoorFacts
import Derived.Test.YtjmemjhjhjifnaaGreatDoorRun0
import Derived.Test.YtjmemjhjhjifnaaGreatDoorRun1
import Derived.Test.YtjmemjhjhjifnaaGreatDoorRun2
import Derived.Test.YtjmemjhjhjifnaaGreatDoorRun3
import Derived.Test.YtjmemjhjhjifnaaGreatDoorRun4
import Derived.Test.YtjmemjhjhjifnaaGreatDoorRun5
import Derived.Test.YtjmemjhjhjifnaaGreatDoorRun6
import Derived.Test.YtjmemjhjhjifnaaGreatDoorRun7
import Derived.Test.YtjmemjhjhjifnaaGreatDoorRun8
import Derived.Test.YtjmemjhjhjifnaaGreatDoorRun9
import Derived.Test.YtjmemjhjhjifnaaGreatDoorRun10
import Derived.Test.YtjmemjhjhjifnaaGreatDoorRun11
import Derived.Test.YtjmemjhjhjifnaaGreatDoorRun12
import Derived.Test.YtjmemjhjhjifnaaGreatDoorRun13
import Derived.Test.YtjmemjhjhjifnaaGreatDoorRun14
import Derived.Test.YtjmemjhjhjifnaaGreatDoorRun15
import Derived.Test.YtjmemjhjhjifnaaGreatDoorRun16
import Derived.Test.YtjmemjhjhjifnaaGreatDoorRun17
import Derived.Test.YtjmemjhjhjifnaaGreatDoorRun18
import Derived.Test.YtjmemjhjhjifnaaGreatDoorRun19
import Derived.Test.YtjmemjhjhjifnaaGreatDoorRun20
import Derived.Test.YtjmemjhjhjifnaaGreatDoorRun21
import Derived.Test.YtjmemjhjhjifnaaGreatDoorRun22
import Derived.Test.YtjmemjhjhjifnaaGreatDoorRun23
import Derived.Test.YtjmemjhjhjifnaaGreatDoorRun24
import Derived.Test.YtjmemjhjhjifnaaGreatDoorRun25
import Derived.Test.YtjmemjhjhjifnaaGreatDoorRun26
import Derived.Test.YtjmemjhjhjifnaaGreatDoorRun27
import Derived.Test.YtjmemjhjhjifnaaGreatDoorRun28
import Derived.Test.YtjmemjhjhjifnaaGreatDoorRun29
import Derived.Test.YtjmemjhjhjifnaaGreatDoorRun30

section
/- All runs. -/
namespace Go.Proofs.YtjmemjhjhjifnaaGreatDoor
open Go Go.Ev
theorem all_runs : AllRuns := by
  intro n hn k
  match n, hn, k with
  | 0, _, true => exact run_0_true
  | 0, _, false => exact run_0_false
  | 1, _, true => exact run_1_true
  | 1, _, false => exact run_1_false
  | 2, _, true => exact run_2_true
  | 2, _, false => exact run_2_false
  | 3, _, true => exact run_3_true
  | 3, _, false => exact run_3_false
  | 4, _, true => exact run_4_true
  | 4, _, false => exact run_4_false
  | 5, _, true => exact run_5_true
  | 5, _, false => exact run_5_false
  | 6, _, true => exact run_6_true
  | 6, _, false => exact run_6_false
  | 7, _, true => exact run_7_true
  | 7, _, false => exact run_7_false
  | 8, _, true => exact run_8_true
  | 8, _, false => exact run_8_false
  | 9, _, true => exact run_9_true
  | 9, _, false => exact run_9_false
  | 10, _, true => exact run_10_true
  | 10, _, false => exact run_10_false
  | 11, _, true => exact run_11_true
  | 11, _, false => exact run_11_false
  | 12, _, true => exact run_12_true
  | 12, _, false => exact run_12_false
  | 13, _, true => exact run_13_true
  | 13, _, false => exact run_13_false
  | 14, _, true => exact run_14_true
  | 14, _, false => exact run_14_false
  | 15, _, true => exact run_15_true
  | 15, _, false => exact run_15_false
  | 16, _, true => exact run_16_true
  | 16, _, false => exact run_16_false
  | 17, _, true => exact run_17_true
  | 17, _, false => exact run_17_false
  | 18, _, true => exact run_18_true
  | 18, _, false => exact run_18_false
  | 19, _, true => exact run_19_true
  | 19, _, false => exact run_19_false
  | 20, _, true => exact run_20_true
  | 20, _, false => exact run_20_false
  | 21, _, true => exact run_21_true
  | 21, _, false => exact run_21_false
  | 22, _, true => exact run_22_true
  | 22, _, false => exact run_22_false
  | 23, _, true => exact run_23_true
  | 23, _, false => exact run_23_false
  | 24, _, true => exact run_24_true
  | 24, _, false => exact run_24_false
  | 25, _, true => exact run_25_true
  | 25, _, false => exact run_25_false
  | 26, _, true => exact run_26_true
  | 26, _, false => exact run_26_false
  | 27, _, true => exact run_27_true
  | 27, _, false => exact run_27_false
  | 28, _, true => exact run_28_true
  | 28, _, false => exact run_28_false
  | 29, _, true => exact run_29_true
  | 29, _, false => exact run_29_false
  | 30, _, true => exact run_30_true
  | 30, _, false => exact run_30_false
  | n + 31, h, _ => omega
theorem planRemarks_holds : Rows.PlanRemarksSaid :=
  OpenClaim.holds_of_wide 3 Tryz.f3 rfl rfl rfl rfl rfl rfl rfl ⟨rfl, rfl, rfl, rfl, rfl⟩ rfl rfl rfl rfl rfl (by kernel_rfl) Tryz.func3 facts_all
    (of_decide_eq_true (by kernel_rfl)) (by unfold Func.isWrapper; first | (rw [if_pos (by decide +kernel)]; kernel_rfl) | (rw [if_neg (by decide +kernel)]; exact ⟨rfl, rfl⟩))
    (fun os started H enc _ => pr_lifted2 all_runs os started H enc)
end Go.Proofs.YtjmemjhjhjifnaaGreatDoor
end
