/- Functions known beforehand: the library's, comparisons, the two sorts. -/
import Derived.Test.YtjeobamlafahaaaGreatDoorTab
import Derived.Laws.Cover1
import Derived.WalkKit
import Derived.WalkSpells
import Derived.Shelf.Strings.Search2
import Derived.Shelf.Strings.Shaped

section
namespace Go.Proofs
open Go.Shelf
def Tryz.lays219_ren : Ren := ⟨fun x => match x with | 217 => 177 | 219 => 175 | 224 => 267 | 225 => 266 | 266 => 269 | 267 => 268 | 314 => 354 | n => n, fun x => match x with | 46 => 99 | 51 => 218 | 146 => 498 | n => n, fun x => match x with | 1 => 0 | n => n⟩
theorem Tryz.lays219 : Lays.n219 Tryz.prog Tryz.lays219_ren where
  mixed := by kernel_rfl
  f217 := Tryz.func177.trans (congrArg some (by kernel_rfl))
  f219 := Tryz.func175.trans (congrArg some (by kernel_rfl))
  f224 := Tryz.func267.trans (congrArg some (by kernel_rfl))
  f225 := Tryz.func266.trans (congrArg some (by kernel_rfl))
  f266 := Tryz.func269.trans (congrArg some (by kernel_rfl))
  f267 := Tryz.func268.trans (congrArg some (by kernel_rfl))
  f314 := Tryz.func354.trans (congrArg some (by kernel_rfl))
  t3 := Tryz.underlying3
  a3 := Tryz.isAgg3
  z3 := Tryz.sizeOf3
  v3 := Tryz.zeroValue3
  t4 := Tryz.underlying4
  a4 := Tryz.isAgg4
  z4 := Tryz.sizeOf4
  v4 := Tryz.zeroValue4
  t5 := Tryz.underlying5
  a5 := Tryz.isAgg5
  z5 := Tryz.sizeOf5
  v5 := Tryz.zeroValue5
  t9 := Tryz.underlying9
  a9 := Tryz.isAgg9
  z9 := Tryz.sizeOf9
  v9 := Tryz.zeroValue9
  t46 := Tryz.underlying99
  a46 := Tryz.isAgg99
  z46 := Tryz.sizeOf99
  v46 := Tryz.zeroValue99
  t51 := Tryz.underlying218
  a51 := Tryz.isAgg218
  z51 := Tryz.sizeOf218
  v51 := Tryz.zeroValue218
  t146 := Tryz.underlying498
  a146 := Tryz.isAgg498
  z146 := Tryz.sizeOf498
  v146 := Tryz.zeroValue498
  g1 := by kernel_rfl
def Tryz.sort223_ren : Ren := ⟨fun x => match x with | 6 => 223 | 14 => 316 | 15 => 47 | 20 => 418 | 21 => 419 | 22 => 420 | 23 => 421 | 24 => 422 | 25 => 423 | 26 => 424 | 27 => 425 | 28 => 121 | 29 => 122 | 46 => 516 | 47 => 194 | 48 => 195 | 49 => 517 | 50 => 518 | 57 => 591 | n => n, fun x => match x with | 22 => 104 | 25 => 345 | 39 => 99 | 45 => 210 | 46 => 211 | 50 => 215 | 53 => 218 | 55 => 220 | 66 => 304 | 70 => 308 | 76 => 411 | 77 => 412 | 24 => 142 | n => n, fun x => match x with | n => n⟩
theorem Tryz.sort223 : SlLaysF0.n6 Tryz.prog Tryz.sort223_ren where
  mixed := by kernel_rfl
  f6 := ⟨ "slices.SortFunc[[]recast/api.Use,recast/api.Use]", by decide, Tryz.func223.trans (congrArg some (by kernel_rfl))⟩
  f14 := ⟨ "slices.pdqsortCmpFunc[recast/api.Use]", by decide, Tryz.func316.trans (congrArg some (by kernel_rfl))⟩
  f15 := Tryz.func47.trans (congrArg some (by kernel_rfl))
  f20 := ⟨ "slices.insertionSortCmpFunc[recast/api.Use]", by decide, Tryz.func418.trans (congrArg some (by kernel_rfl))⟩
  f21 := ⟨ "slices.heapSortCmpFunc[recast/api.Use]", by decide, Tryz.func419.trans (congrArg some (by kernel_rfl))⟩
  f22 := ⟨ "slices.breakPatternsCmpFunc[recast/api.Use]", by decide, Tryz.func420.trans (congrArg some (by kernel_rfl))⟩
  f23 := ⟨ "slices.choosePivotCmpFunc[recast/api.Use]", by decide, Tryz.func421.trans (congrArg some (by kernel_rfl))⟩
  f24 := ⟨ "slices.reverseRangeCmpFunc[recast/api.Use]", by decide, Tryz.func422.trans (congrArg some (by kernel_rfl))⟩
  f25 := ⟨ "slices.partialInsertionSortCmpFunc[recast/api.Use]", by decide, Tryz.func423.trans (congrArg some (by kernel_rfl))⟩
  f26 := ⟨ "slices.partitionEqualCmpFunc[recast/api.Use]", by decide, Tryz.func424.trans (congrArg some (by kernel_rfl))⟩
  f27 := ⟨ "slices.partitionCmpFunc[recast/api.Use]", by decide, Tryz.func425.trans (congrArg some (by kernel_rfl))⟩
  f28 := Tryz.func121.trans (congrArg some (by kernel_rfl))
  f29 := Tryz.func122.trans (congrArg some (by kernel_rfl))
  f46 := ⟨ "slices.siftDownCmpFunc[recast/api.Use]", by decide, Tryz.func516.trans (congrArg some (by kernel_rfl))⟩
  f47 := Tryz.func194.trans (congrArg some (by kernel_rfl))
  f48 := Tryz.func195.trans (congrArg some (by kernel_rfl))
  f49 := ⟨ "slices.medianAdjacentCmpFunc[recast/api.Use]", by decide, Tryz.func517.trans (congrArg some (by kernel_rfl))⟩
  f50 := ⟨ "slices.medianCmpFunc[recast/api.Use]", by decide, Tryz.func518.trans (congrArg some (by kernel_rfl))⟩
  f57 := ⟨ "slices.order2CmpFunc[recast/api.Use]", by decide, Tryz.func591.trans (congrArg some (by kernel_rfl))⟩
  t0 := Tryz.underlying0
  a0 := Tryz.isAgg0
  z0 := Tryz.sizeOf0
  v0 := Tryz.zeroValue0
  t3 := Tryz.underlying3
  a3 := Tryz.isAgg3
  z3 := Tryz.sizeOf3
  v3 := Tryz.zeroValue3
  t4 := Tryz.underlying4
  a4 := Tryz.isAgg4
  z4 := Tryz.sizeOf4
  v4 := Tryz.zeroValue4
  t5 := Tryz.underlying5
  a5 := Tryz.isAgg5
  z5 := Tryz.sizeOf5
  v5 := Tryz.zeroValue5
  t9 := Tryz.underlying9
  a9 := Tryz.isAgg9
  z9 := Tryz.sizeOf9
  v9 := Tryz.zeroValue9
  t22 := Tryz.underlying104
  a22 := Tryz.isAgg104
  z22 := Tryz.sizeOf104
  v22 := Tryz.zeroValue104
  t25 := Tryz.underlying345
  a25 := Tryz.isAgg345
  z25 := Tryz.sizeOf345
  v25 := Tryz.zeroValue345
  t39 := Tryz.underlying99
  a39 := Tryz.isAgg99
  z39 := Tryz.sizeOf99
  v39 := Tryz.zeroValue99
  t45 := Tryz.underlying210
  a45 := Tryz.isAgg210
  z45 := Tryz.sizeOf210
  v45 := Tryz.zeroValue210
  t46 := Tryz.underlying211
  a46 := Tryz.isAgg211
  z46 := Tryz.sizeOf211
  v46 := Tryz.zeroValue211
  t50 := Tryz.underlying215
  a50 := Tryz.isAgg215
  z50 := Tryz.sizeOf215
  v50 := Tryz.zeroValue215
  t53 := Tryz.underlying218
  a53 := Tryz.isAgg218
  z53 := Tryz.sizeOf218
  v53 := Tryz.zeroValue218
  t55 := Tryz.underlying220
  a55 := Tryz.isAgg220
  z55 := Tryz.sizeOf220
  v55 := Tryz.zeroValue220
  t66 := Tryz.underlying304
  a66 := Tryz.isAgg304
  z66 := Tryz.sizeOf304
  v66 := Tryz.zeroValue304
  t70 := Tryz.underlying308
  a70 := Tryz.isAgg308
  z70 := Tryz.sizeOf308
  v70 := Tryz.zeroValue308
  t76 := Tryz.underlying411
  a76 := Tryz.isAgg411
  z76 := Tryz.sizeOf411
  v76 := Tryz.zeroValue411
  t77 := Tryz.underlying412
  a77 := Tryz.isAgg412
  z77 := Tryz.sizeOf412
  v77 := Tryz.zeroValue412
def Tryz.sort228_ren : Ren := ⟨fun x => match x with | 6 => 228 | 14 => 318 | 15 => 47 | 20 => 426 | 21 => 427 | 22 => 428 | 23 => 429 | 24 => 430 | 25 => 431 | 26 => 432 | 27 => 433 | 28 => 121 | 29 => 122 | 46 => 519 | 47 => 194 | 48 => 195 | 49 => 520 | 50 => 521 | 57 => 592 | n => n, fun x => match x with | 22 => 105 | 25 => 351 | 39 => 99 | 45 => 210 | 46 => 211 | 50 => 215 | 53 => 218 | 55 => 220 | 66 => 304 | 70 => 308 | 76 => 411 | 77 => 412 | 24 => 349 | n => n, fun x => match x with | n => n⟩
theorem Tryz.sort228 : SlLaysF0.n6 Tryz.prog Tryz.sort228_ren where
  mixed := by kernel_rfl
  f6 := ⟨ "slices.SortFunc[[]recast/api.Typed,recast/api.Typed]", by decide, Tryz.func228.trans (congrArg some (by kernel_rfl))⟩
  f14 := ⟨ "slices.pdqsortCmpFunc[recast/api.Typed]", by decide, Tryz.func318.trans (congrArg some (by kernel_rfl))⟩
  f15 := Tryz.func47.trans (congrArg some (by kernel_rfl))
  f20 := ⟨ "slices.insertionSortCmpFunc[recast/api.Typed]", by decide, Tryz.func426.trans (congrArg some (by kernel_rfl))⟩
  f21 := ⟨ "slices.heapSortCmpFunc[recast/api.Typed]", by decide, Tryz.func427.trans (congrArg some (by kernel_rfl))⟩
  f22 := ⟨ "slices.breakPatternsCmpFunc[recast/api.Typed]", by decide, Tryz.func428.trans (congrArg some (by kernel_rfl))⟩
  f23 := ⟨ "slices.choosePivotCmpFunc[recast/api.Typed]", by decide, Tryz.func429.trans (congrArg some (by kernel_rfl))⟩
  f24 := ⟨ "slices.reverseRangeCmpFunc[recast/api.Typed]", by decide, Tryz.func430.trans (congrArg some (by kernel_rfl))⟩
  f25 := ⟨ "slices.partialInsertionSortCmpFunc[recast/api.Typed]", by decide, Tryz.func431.trans (congrArg some (by kernel_rfl))⟩
  f26 := ⟨ "slices.partitionEqualCmpFunc[recast/api.Typed]", by decide, Tryz.func432.trans (congrArg some (by kernel_rfl))⟩
  f27 := ⟨ "slices.partitionCmpFunc[recast/api.Typed]", by decide, Tryz.func433.trans (congrArg some (by kernel_rfl))⟩
  f28 := Tryz.func121.trans (congrArg some (by kernel_rfl))
  f29 := Tryz.func122.trans (congrArg some (by kernel_rfl))
  f46 := ⟨ "slices.siftDownCmpFunc[recast/api.Typed]", by decide, Tryz.func519.trans (congrArg some (by kernel_rfl))⟩
  f47 := Tryz.func194.trans (congrArg some (by kernel_rfl))
  f48 := Tryz.func195.trans (congrArg some (by kernel_rfl))
  f49 := ⟨ "slices.medianAdjacentCmpFunc[recast/api.Typed]", by decide, Tryz.func520.trans (congrArg some (by kernel_rfl))⟩
  f50 := ⟨ "slices.medianCmpFunc[recast/api.Typed]", by decide, Tryz.func521.trans (congrArg some (by kernel_rfl))⟩
  f57 := ⟨ "slices.order2CmpFunc[recast/api.Typed]", by decide, Tryz.func592.trans (congrArg some (by kernel_rfl))⟩
  t0 := Tryz.underlying0
  a0 := Tryz.isAgg0
  z0 := Tryz.sizeOf0
  v0 := Tryz.zeroValue0
  t3 := Tryz.underlying3
  a3 := Tryz.isAgg3
  z3 := Tryz.sizeOf3
  v3 := Tryz.zeroValue3
  t4 := Tryz.underlying4
  a4 := Tryz.isAgg4
  z4 := Tryz.sizeOf4
  v4 := Tryz.zeroValue4
  t5 := Tryz.underlying5
  a5 := Tryz.isAgg5
  z5 := Tryz.sizeOf5
  v5 := Tryz.zeroValue5
  t9 := Tryz.underlying9
  a9 := Tryz.isAgg9
  z9 := Tryz.sizeOf9
  v9 := Tryz.zeroValue9
  t22 := Tryz.underlying105
  a22 := Tryz.isAgg105
  z22 := Tryz.sizeOf105
  v22 := Tryz.zeroValue105
  t25 := Tryz.underlying351
  a25 := Tryz.isAgg351
  z25 := Tryz.sizeOf351
  v25 := Tryz.zeroValue351
  t39 := Tryz.underlying99
  a39 := Tryz.isAgg99
  z39 := Tryz.sizeOf99
  v39 := Tryz.zeroValue99
  t45 := Tryz.underlying210
  a45 := Tryz.isAgg210
  z45 := Tryz.sizeOf210
  v45 := Tryz.zeroValue210
  t46 := Tryz.underlying211
  a46 := Tryz.isAgg211
  z46 := Tryz.sizeOf211
  v46 := Tryz.zeroValue211
  t50 := Tryz.underlying215
  a50 := Tryz.isAgg215
  z50 := Tryz.sizeOf215
  v50 := Tryz.zeroValue215
  t53 := Tryz.underlying218
  a53 := Tryz.isAgg218
  z53 := Tryz.sizeOf218
  v53 := Tryz.zeroValue218
  t55 := Tryz.underlying220
  a55 := Tryz.isAgg220
  z55 := Tryz.sizeOf220
  v55 := Tryz.zeroValue220
  t66 := Tryz.underlying304
  a66 := Tryz.isAgg304
  z66 := Tryz.sizeOf304
  v66 := Tryz.zeroValue304
  t70 := Tryz.underlying308
  a70 := Tryz.isAgg308
  z70 := Tryz.sizeOf308
  v70 := Tryz.zeroValue308
  t76 := Tryz.underlying411
  a76 := Tryz.isAgg411
  z76 := Tryz.sizeOf411
  v76 := Tryz.zeroValue411
  t77 := Tryz.underlying412
  a77 := Tryz.isAgg412
  z77 := Tryz.sizeOf412
  v77 := Tryz.zeroValue412
def Tryz.laysM219_ren : Ren := ⟨fun x => match x with | 217 => 177 | 219 => 175 | 224 => 267 | 225 => 266 | 266 => 269 | 267 => 268 | 314 => 354 | n => n, fun x => match x with | 46 => 99 | 51 => 218 | 146 => 498 | n => n, fun x => match x with | 1 => 0 | n => n⟩
theorem Tryz.laysM219 : LaysM.n219 Tryz.prog Tryz.laysM219_ren where
  mixed := by kernel_rfl
  f217 := Tryz.func177.trans (congrArg some (by kernel_rfl))
  f219 := Tryz.func175.trans (congrArg some (by kernel_rfl))
  f224 := Tryz.func267.trans (congrArg some (by kernel_rfl))
  f225 := Tryz.func266.trans (congrArg some (by kernel_rfl))
  f266 := Tryz.func269.trans (congrArg some (by kernel_rfl))
  f267 := Tryz.func268.trans (congrArg some (by kernel_rfl))
  f314 := Tryz.func354.trans (congrArg some (by kernel_rfl))
  t3 := Tryz.underlying3
  a3 := Tryz.isAgg3
  z3 := Tryz.sizeOf3
  v3 := Tryz.zeroValue3
  t4 := Tryz.underlying4
  a4 := Tryz.isAgg4
  z4 := Tryz.sizeOf4
  v4 := Tryz.zeroValue4
  t5 := Tryz.underlying5
  a5 := Tryz.isAgg5
  z5 := Tryz.sizeOf5
  v5 := Tryz.zeroValue5
  t9 := Tryz.underlying9
  a9 := Tryz.isAgg9
  z9 := Tryz.sizeOf9
  v9 := Tryz.zeroValue9
  t46 := Tryz.underlying99
  a46 := Tryz.isAgg99
  z46 := Tryz.sizeOf99
  v46 := Tryz.zeroValue99
  t51 := Tryz.underlying218
  a51 := Tryz.isAgg218
  z51 := Tryz.sizeOf218
  v51 := Tryz.zeroValue218
  t146 := Tryz.underlying498
  a146 := Tryz.isAgg498
  z146 := Tryz.sizeOf498
  v146 := Tryz.zeroValue498
  g1 := by kernel_rfl
  i3 := by kernel_rfl
  i4 := by kernel_rfl
  i5 := by kernel_rfl
  i9 := by kernel_rfl
  i46 := by kernel_rfl
  i51 := by kernel_rfl
  i146 := by kernel_rfl
  m1 := by kernel_rfl
  s1_3 := fun w h => cell_of_shapedOpen_int h (of_decide_eq_true (by kernel_rfl)) (show _ = some (#[Value.int IntKind.i64 0], 3) from by kernel_rfl) rfl (by kernel_rfl) (show _ = some [3] from by kernel_rfl) Tryz.underlying3
end Go.Proofs
end

section
namespace Go.Ev
open Go.Proofs Go.RowKit
set_option maxRecDepth 1000000
theorem ext175 : ExtOne TP 175 extIndex := extIndex_ok (P := Tryz.prog) enter175 fun s sub m w hs hm => Any.stringslite_Index Tryz.lays219 s sub m w hs hm
theorem ext269 : ExtOne TP 269 extIndexByte := extIndexByte_ok (P := Tryz.prog) Tryz.func269 f269b (by rw [f269n]; exact (by decide +kernel)) f269a f269e
theorem ext454 : ExtOne TP 454 extNoEscape := extNoEscape_ok (P := Tryz.prog) Tryz.func454 f454b (by rw [f454n]; exact (by decide +kernel)) f454a f454e
theorem ext455 : ExtOne TP 455 (extMakeNoZero 5) := by
  obtain ⟨t, h1, h2⟩ : ∃ t, Tryz.f455.resultTypes[0]? = some t ∧ TP.underlying t = some (.slice 5) := by
    have := f455t
    cases ht : Tryz.f455.resultTypes[0]? with
    | none => rw [ht] at this; cases this
    | some t => rw [ht, Option.bind_some] at this; exact ⟨t, rfl, this⟩
  exact extMakeNoZero_ok (P := Tryz.prog) Tryz.func455 f455b (by rw [f455n]; exact (by decide +kernel)) f455a f455e h1 h2
end Go.Ev
namespace Go.Proofs
open Go.Ev Go.RowKit
theorem nan198 (s : ByteArray) (w : World) : Calls Tryz.prog 198 #[.string s] w fun e w' => e = .returned (.bool false) ∧ w' = w := by
  go_enter Tryz.func198, Tryz.ntmps198
  go_wp2
  go_ret
  exact ⟨by simp, rfl⟩
theorem nan317 (x : Int) (w : World) : Calls Tryz.prog 317 #[.int .i64 x] w fun e w' => e = .returned (.bool false) ∧ w' = w := by
  go_enter Tryz.func317, Tryz.ntmps317
  go_wp2
  go_ret
  exact ⟨by simp, rfl⟩
set_option maxHeartbeats 1000000 in
theorem cmp226 (s t : ByteArray) (w : World) : Calls Tryz.prog 226 #[.string s, .string t] w fun e w' => e = .returned (.int .i64 (if Op.bytesLess s.toList t.toList = true then -1 else if (s.toList == t.toList) = true then 0 else 1)) ∧ w' = w := by
  generalize hr : (if Op.bytesLess s.toList t.toList = true then (-1 : Int) else if (s.toList == t.toList) = true then 0 else 1) = r
  go_enter Tryz.func226, Tryz.ntmps226
  go_wp2_with (go_at_call 198; refine (nan198 _ _).mono ?_; rintro e w' ⟨rfl, hw⟩; rw [hw])
  all_goals (go_ret; refine ⟨?_, rfl⟩; simp_all)
set_option maxHeartbeats 1000000 in
theorem cmp227 (a b : Int) (w : World) : Calls Tryz.prog 227 #[.int .i64 a, .int .i64 b] w fun e w' => e = .returned (.int .i64 (if a < b then -1 else if b < a then 1 else 0)) ∧ w' = w := by
  go_enter Tryz.func227, Tryz.ntmps227
  go_wp2_with (go_at_call 317; refine (nan317 _ _).mono ?_; rintro e w' ⟨rfl, hw⟩; rw [hw])
  all_goals (go_ret; refine ⟨?_, rfl⟩; (repeat' split) <;> first | rfl | (exfalso; omega))
end Go.Proofs
namespace Go.Ev
open Go.Proofs
theorem f226b : Tryz.f226.body.isSome = true := by kernel_rfl
theorem f226n : Tryz.f226.name = "cmp.Compare[string]" := by kernel_rfl
theorem enter226 : ∀ (args : Array Value) (w : World), (callFunc 226 args).run TP w = .ok (.enter 226 args) w := by
  obtain ⟨c, hc⟩ := Option.isSome_iff_exists.1 f226b
  exact fun args w => Callable.run (P := TP) ⟨Tryz.f226, c, Tryz.func226, hc, by rw [f226n]; exact (by decide +kernel)⟩ args w
theorem f227b : Tryz.f227.body.isSome = true := by kernel_rfl
theorem f227n : Tryz.f227.name = "cmp.Compare[int]" := by kernel_rfl
theorem enter227 : ∀ (args : Array Value) (w : World), (callFunc 227 args).run TP w = .ok (.enter 227 args) w := by
  obtain ⟨c, hc⟩ := Option.isSome_iff_exists.1 f227b
  exact fun args w => Callable.run (P := TP) ⟨Tryz.f227, c, Tryz.func227, hc, by rw [f227n]; exact (by decide +kernel)⟩ args w
theorem ext226 : ExtOne TP 226 extCmpS := extCmpS_ok (P := Tryz.prog) enter226 cmp226
theorem ext227 : ExtOne TP 227 extCmpI := extCmpI_ok (P := Tryz.prog) enter227 cmp227
def ext0 : Nat → Option XF := withX 226 extCmpS (withX 227 extCmpI (withX 269 extIndexByte (withX 175 extIndex (withX 454 extNoEscape (withX 455 (extMakeNoZero 5) fun _ => none)))))
theorem ext0_ok : ∀ f y, ext0 f = some y → ExtOne TP f y := withX_ok ext226 (withX_ok ext227 (withX_ok ext269 (withX_ok ext175 (withX_ok ext454 (withX_ok ext455 fun _ _ h => (by cases h))))))
theorem T0 : Table (TE ext0) (TF ext0) (cCode (TE ext0) true) (fun _ r => r) := tab_of ext0_ok
noncomputable def ext1 : Nat → Option XF := withX 223 (extSort (fun g => ((TE ext0).ext g).isNone) (cn ext0) 3 223) (withX 228 (extSort (fun g => ((TE ext0).ext g).isNone) (cn ext0) 11 228) ext0)
theorem ext223 : ExtOne TP 223 (extSort (fun g => ((TE ext0).ext g).isNone) (cn ext0) 3 223) := extSort_ok T0 (n := 2999) Tryz.sort223 rfl (fun w => Tryz.isAgg142 w) (fun w => Tryz.sizeOf142 w) rfl
theorem ext228 : ExtOne TP 228 (extSort (fun g => ((TE ext0).ext g).isNone) (cn ext0) 11 228) := extSort_ok T0 (n := 2999) Tryz.sort228 rfl (fun w => Tryz.isAgg349 w) (fun w => Tryz.sizeOf349 w) rfl
theorem ext1_ok : ∀ f y, ext1 f = some y → ExtOne TP f y := withX_ok ext223 (withX_ok ext228 ext0_ok)
theorem T1 : Table (TE ext1) (TF ext1) (cCode (TE ext1) true) (fun _ r => r) := tab_of ext1_ok
theorem glo_of_shaped {w : World} (h : w.ShapedOpen Tryz.prog) : Glo w := Tryz.laysM219.s1_3 w h
end Go.Ev
end
