/- What was run once, as functions known beforehand; awake. -/
import Derived.Test.YtjeobamlafahaaaGreatDoorExt
import Derived.Test.YtjeobamlafahaaaGreatDoorMAa
import Derived.Test.YtjeobamlafahaaaGreatDoorMAb
import Derived.Test.YtjeobamlafahaaaGreatDoorMAc
import Derived.Test.YtjeobamlafahaaaGreatDoorMAd
import Derived.Test.YtjeobamlafahaaaGreatDoorMAe
import Derived.Test.YtjeobamlafahaaaGreatDoorM0a
import Derived.Test.YtjeobamlafahaaaGreatDoorM0b
import Derived.Test.YtjeobamlafahaaaGreatDoorM1a
import Derived.Test.YtjeobamlafahaaaGreatDoorM1b
import Derived.Test.YtjeobamlafahaaaGreatDoorM2a
import Derived.Test.YtjeobamlafahaaaGreatDoorM2b
import Derived.Test.YtjeobamlafahaaaGreatDoorM3a
import Derived.Test.YtjeobamlafahaaaGreatDoorM3b
import Derived.Test.YtjeobamlafahaaaGreatDoorM4a
import Derived.Test.YtjeobamlafahaaaGreatDoorM4b
import Derived.Test.YtjeobamlafahaaaGreatDoorM5a
import Derived.Test.YtjeobamlafahaaaGreatDoorM5b
import Derived.Test.YtjeobamlafahaaaGreatDoorM6a
import Derived.Test.YtjeobamlafahaaaGreatDoorM6b
import Derived.Test.YtjeobamlafahaaaGreatDoorM7a
import Derived.Test.YtjeobamlafahaaaGreatDoorM7b

section
namespace Go.Ev
open Go.Proofs
set_option maxRecDepth 1000000
def x5 : XF := orX (memoX maq0A 2 1 maq0L (.tup [.ptr 7 0, .agg [.int .i64 (.ofNat 0), .str 0 0, .int .i64 (.ofNat 0)]]) 1820 1 maq0M) (orX (memoX maq4A 8854 45 maq4L (.tup [.ptr 8859 0, .agg [.int .i64 (.ofNat 0), .str 0 0, .int .i64 (.ofNat 0)]]) 11524 45 maq4M) (orX (memoX m0q0A 4 1 m0q0L (.tup [.ptr 9 0, .agg [.int .i64 (.ofNat 0), .str 0 0, .int .i64 (.ofNat 0)]]) 2960 1 m0q0M) (orX (memoX m1q0A 4 1 m1q0L (.tup [.ptr 9 0, .agg [.int .i64 (.ofNat 0), .str 0 0, .int .i64 (.ofNat 0)]]) 2959 1 m1q0M) (orX (memoX m2q0A 4 1 m2q0L (.tup [.ptr 9 0, .agg [.int .i64 (.ofNat 0), .str 0 0, .int .i64 (.ofNat 0)]]) 2962 1 m2q0M) (orX (memoX m3q0A 4 1 m3q0L (.tup [.ptr 9 0, .agg [.int .i64 (.ofNat 0), .str 0 0, .int .i64 (.ofNat 0)]]) 3075 1 m3q0M) (orX (memoX m4q0A 4 1 m4q0L (.tup [.ptr 9 0, .agg [.int .i64 (.ofNat 0), .str 0 0, .int .i64 (.ofNat 0)]]) 3208 1 m4q0M) (orX (memoX m5q0A 4 1 m5q0L (.tup [.ptr 9 0, .agg [.int .i64 (.ofNat 0), .str 0 0, .int .i64 (.ofNat 0)]]) 3430 1 m5q0M) (orX (memoX m6q0A 4 1 m6q0L (.tup [.ptr 9 0, .agg [.int .i64 (.ofNat 0), .str 0 0, .int .i64 (.ofNat 0)]]) 3070 1 m6q0M) (orX (memoX m7q0A 4 1 m7q0L (.tup [.ptr 9 0, .agg [.int .i64 (.ofNat 0), .str 0 0, .int .i64 (.ofNat 0)]]) 3172 1 m7q0M) (fun _ _ => none))))))))))
theorem x5_ok : ExtOne TP 5 x5 := ExtOne.or (memo_ok T1 (n := 2999) (f := 5) rfl maq0_ok) (ExtOne.or (memo_ok T1 (n := 2999) (f := 5) rfl maq4_ok) (ExtOne.or (memo_ok T1 (n := 2999) (f := 5) rfl m0q0_ok) (ExtOne.or (memo_ok T1 (n := 2999) (f := 5) rfl m1q0_ok) (ExtOne.or (memo_ok T1 (n := 2999) (f := 5) rfl m2q0_ok) (ExtOne.or (memo_ok T1 (n := 2999) (f := 5) rfl m3q0_ok) (ExtOne.or (memo_ok T1 (n := 2999) (f := 5) rfl m4q0_ok) (ExtOne.or (memo_ok T1 (n := 2999) (f := 5) rfl m5q0_ok) (ExtOne.or (memo_ok T1 (n := 2999) (f := 5) rfl m6q0_ok) (ExtOne.or (memo_ok T1 (n := 2999) (f := 5) rfl m7q0_ok) (ExtOne.none))))))))))
def x21 : XF := orX (memoX maq1A 1831 1 maq1L (.agg [.int .i64 (.ofNat 0), .str 0 0, .int .i64 (.ofNat 0)]) 4095 23 maq1M) (orX (memoX maq5A 11525 45 maq5L (.agg [.int .i64 (.ofNat 0), .str 0 0, .int .i64 (.ofNat 0)]) 15401 80 maq5M) (orX (memoX m0q1A 2971 1 m0q1L (.agg [.int .i64 (.ofNat 0), .str 0 0, .int .i64 (.ofNat 0)]) 5982 28 m0q1M) (orX (memoX m1q1A 2970 1 m1q1L (.agg [.int .i64 (.ofNat 0), .str 0 0, .int .i64 (.ofNat 0)]) 5981 28 m1q1M) (orX (memoX m2q1A 2973 1 m2q1L (.agg [.int .i64 (.ofNat 0), .str 0 0, .int .i64 (.ofNat 0)]) 5984 28 m2q1M) (orX (memoX m3q1A 3086 1 m3q1L (.agg [.int .i64 (.ofNat 0), .str 0 0, .int .i64 (.ofNat 0)]) 6269 31 m3q1M) (orX (memoX m4q1A 3219 1 m4q1L (.agg [.int .i64 (.ofNat 0), .str 0 0, .int .i64 (.ofNat 0)]) 6413 30 m4q1M) (orX (memoX m5q1A 3441 1 m5q1L (.agg [.int .i64 (.ofNat 0), .str 0 0, .int .i64 (.ofNat 0)]) 6836 34 m5q1M) (orX (memoX m6q1A 3081 1 m6q1L (.agg [.int .i64 (.ofNat 0), .str 0 0, .int .i64 (.ofNat 0)]) 6204 30 m6q1M) (orX (memoX m7q1A 3183 1 m7q1L (.agg [.int .i64 (.ofNat 0), .str 0 0, .int .i64 (.ofNat 0)]) 6494 33 m7q1M) (fun _ _ => none))))))))))
theorem x21_ok : ExtOne TP 21 x21 := ExtOne.or (memo_ok T1 (n := 2999) (f := 21) rfl maq1_ok) (ExtOne.or (memo_ok T1 (n := 2999) (f := 21) rfl maq5_ok) (ExtOne.or (memo_ok T1 (n := 2999) (f := 21) rfl m0q1_ok) (ExtOne.or (memo_ok T1 (n := 2999) (f := 21) rfl m1q1_ok) (ExtOne.or (memo_ok T1 (n := 2999) (f := 21) rfl m2q1_ok) (ExtOne.or (memo_ok T1 (n := 2999) (f := 21) rfl m3q1_ok) (ExtOne.or (memo_ok T1 (n := 2999) (f := 21) rfl m4q1_ok) (ExtOne.or (memo_ok T1 (n := 2999) (f := 21) rfl m5q1_ok) (ExtOne.or (memo_ok T1 (n := 2999) (f := 21) rfl m6q1_ok) (ExtOne.or (memo_ok T1 (n := 2999) (f := 21) rfl m7q1_ok) (ExtOne.none))))))))))
def x27 : XF := orX (memoX maq2A 4472 23 maq2L (.slc 6804 0 1 1 6) 6805 45 maq2M) (orX (memoX m0q2A 6664 28 m0q2L (.slc 9760 0 1 1 6) 9761 55 m0q2M) (orX (memoX m1q2A 6663 28 m1q2L (.slc 9759 0 1 1 6) 9760 55 m1q2M) (orX (memoX m2q2A 6666 28 m2q2L (.slc 9762 0 1 1 6) 9763 55 m2q2M) (orX (memoX m3q2A 6971 31 m3q2L (.slc 10245 0 1 1 6) 10246 61 m3q2M) (orX (memoX m4q2A 7141 30 m4q2L (.slc 10423 0 1 1 6) 10424 59 m4q2M) (orX (memoX m5q2A 7586 34 m5q2L (.slc 11078 0 1 1 6) 11079 67 m5q2M) (orX (memoX m6q2A 6896 30 m6q2L (.slc 10107 0 1 1 6) 10108 59 m6q2M) (orX (memoX m7q2A 7222 33 m7q2L (.slc 10637 0 1 1 6) 10638 65 m7q2M) (fun _ _ => none)))))))))
theorem x27_ok : ExtOne TP 27 x27 := ExtOne.or (memo_ok T1 (n := 2999) (f := 27) rfl maq2_ok) (ExtOne.or (memo_ok T1 (n := 2999) (f := 27) rfl m0q2_ok) (ExtOne.or (memo_ok T1 (n := 2999) (f := 27) rfl m1q2_ok) (ExtOne.or (memo_ok T1 (n := 2999) (f := 27) rfl m2q2_ok) (ExtOne.or (memo_ok T1 (n := 2999) (f := 27) rfl m3q2_ok) (ExtOne.or (memo_ok T1 (n := 2999) (f := 27) rfl m4q2_ok) (ExtOne.or (memo_ok T1 (n := 2999) (f := 27) rfl m5q2_ok) (ExtOne.or (memo_ok T1 (n := 2999) (f := 27) rfl m6q2_ok) (ExtOne.or (memo_ok T1 (n := 2999) (f := 27) rfl m7q2_ok) (ExtOne.none)))))))))
def x62 : XF := orX (memoX maq6A 15403 80 maq6L (.tup [.agg [.slc 16341 0 4 4 13, .slc 17631 0 12 12 3, .slc 17662 0 10 10 11, .nils, .nils, .ptr 15405 0], .agg [.int .i64 (.ofNat 0), .str 0 0, .int .i64 (.ofNat 0)]]) 17726 102 maq6M) (orX (memoX maq7A 17728 102 maq7L (.tup [.agg [.slc 19206 0 6 6 13, .slc 21553 0 20 20 3, .slc 21599 0 15 15 11, .nils, .nils, .ptr 17730 0], .agg [.int .i64 (.ofNat 0), .str 0 0, .int .i64 (.ofNat 0)]]) 21700 137 maq7M) (fun _ _ => none))
theorem x62_ok : ExtOne TP 62 x62 := ExtOne.or (memo_ok T1 (n := 2999) (f := 62) rfl maq6_ok) (ExtOne.or (memo_ok T1 (n := 2999) (f := 62) rfl maq7_ok) (ExtOne.none))
def x81 : XF := orX (memoX maq3A 7464 45 maq3L (.bool false) 8853 45 maq3M) (fun _ _ => none)
theorem x81_ok : ExtOne TP 81 x81 := ExtOne.or (memo_ok T1 (n := 2999) (f := 81) rfl maq3_ok) (ExtOne.none)
noncomputable def ext2 : Nat → Option XF := withX 81 x81 (withX 62 x62 (withX 27 x27 (withX 21 x21 (withX 5 x5 (ext1)))))
theorem ext2_ok : ∀ f y, ext2 f = some y → ExtOne TP f y := withX_ok x81_ok (withX_ok x62_ok (withX_ok x27_ok (withX_ok x21_ok (withX_ok x5_ok (ext1_ok)))))
theorem T2 : Table (TE ext2) (TF ext2) (cCode (TE ext2) true) (fun _ r => r) := tab_of ext2_ok
theorem run_awake : runB ext2 4 [] = true := by kernel_rfl
theorem awake_calls (w : World) (g : Glo w) : Calls Tryz.prog 4 #[] w fun e w' => e = .returned (.bool true) ∧ Kept w w' :=
  runB_calls T2 (f := 4) (args := []) rfl run_awake w g [] (by simp [VRs])
noncomputable def ext3 : Nat → Option XF := withX 4 (constX true) ext2
theorem ext3_ok : ∀ f y, ext3 f = some y → ExtOne TP f y := withX_ok (const_ok T2 (n := 2999) rfl (constB_of_runB run_awake)) ext2_ok
theorem T3 : Table (TE ext3) (TF ext3) (cCode (TE ext3) true) (fun _ r => r) := tab_of ext3_ok
end Go.Ev
end
