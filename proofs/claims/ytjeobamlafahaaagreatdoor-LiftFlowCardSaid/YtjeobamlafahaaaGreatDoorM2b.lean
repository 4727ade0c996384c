/- Calls at given heaps, run once. -/
import Derived.Test.YtjeobamlafahaaaGreatDoorExt

section
namespace Go.Ev
set_option maxRecDepth 1000000
def m2q2A : List AV := [.ptr 9 0, .str 9 2017714366678347704163]
def m2q2L : List (Nat × AB) := [(2, .cells 3 [.int .i64 (.ofNat 10), .int .i64 (.ofNat 10), .int .i64 (.ofNat 10), .int .i64 (.ofNat 10), .int .i64 (.ofNat 10), .int .i64 (.ofNat 10), .int .i64 (.ofNat 11), .int .i64 (.ofNat 11)] [] .op),
  (8, .map [(.str 9 2017714366678347704163, .agg [.str 133 86769298162754311003318909705699230766513687776767189024245686622814694948737660160205288407586589034522839162733149349831962355891514921856557864041413712192769239141719136393077652662766048694230558761970941289433847137662376972277313344627863663302907995375358285690474849433542069150610746409932402159595299701161226, .int .i64 (.ofNat 1), .int .i64 (.ofNat 0), .int .i64 (.ofNat 132), .str 0 0, .slc 2825 0 3 3 5, .ptr 2953 0, .str 4 1835100526, .nils], 0)] 1),
  (9, .cells 47 [.map 8, .slc 36 0 1 1 1, .nils] [] .op),
  (36, .cells 9 [.str 9 2017714366678347704163] [] .op),
  (1176, .cells 52 [.int .i64 (.ofNat 7), .int .i64 (.ofNat 0), .int .i64 (.ofNat 0), .str 0 0, .nils, .int .i64 (.ofNat 40), .int .i64 (.ofNat 18), .int .i64 (.ofNat 24), .str 6 123636697429042, .nils, .int .i64 (.ofNat 7), .int .i64 (.ofNat 0), .int .i64 (.ofNat 0), .str 0 0, .nils, .int .i64 (.ofNat 10), .int .i64 (.ofNat 24), .int .i64 (.ofNat 26), .str 0 0, .nils, .int .i64 (.ofNat 12), .int .i64 (.ofNat 27), .int .i64 (.ofNat 27), .str 0 0, .nils, .int .i64 (.ofNat 60), .int .i64 (.ofNat 27), .int .i64 (.ofNat 29), .str 0 0, .nils] [] .op),
  (1343, .cells 52 [.int .i64 (.ofNat 40), .int .i64 (.ofNat 44), .int .i64 (.ofNat 45), .str 1 122, .nils] [] .op),
  (1398, .cells 52 [.int .i64 (.ofNat 42), .int .i64 (.ofNat 49), .int .i64 (.ofNat 50), .str 1 48, .nils] [] .op),
  (1410, .cells 52 [.int .i64 (.ofNat 65), .int .i64 (.ofNat 44), .int .i64 (.ofNat 45), .str 0 0, .slc 1343 0 1 1 0, .int .i64 (.ofNat 65), .int .i64 (.ofNat 49), .int .i64 (.ofNat 50), .str 0 0, .slc 1398 0 1 1 0] [] .op),
  (1514, .cells 52 [.int .i64 (.ofNat 40), .int .i64 (.ofNat 51), .int .i64 (.ofNat 52), .str 1 118, .nils] [] .op),
  (1569, .cells 52 [.int .i64 (.ofNat 42), .int .i64 (.ofNat 56), .int .i64 (.ofNat 57), .str 1 49, .nils] [] .op),
  (1581, .cells 52 [.int .i64 (.ofNat 65), .int .i64 (.ofNat 51), .int .i64 (.ofNat 52), .str 0 0, .slc 1514 0 1 1 0, .int .i64 (.ofNat 65), .int .i64 (.ofNat 56), .int .i64 (.ofNat 57), .str 0 0, .slc 1569 0 1 1 0] [] .op),
  (1685, .cells 52 [.int .i64 (.ofNat 40), .int .i64 (.ofNat 58), .int .i64 (.ofNat 59), .str 1 112, .nils] [] .op),
  (1756, .cells 52 [.int .i64 (.ofNat 40), .int .i64 (.ofNat 64), .int .i64 (.ofNat 65), .str 1 118, .nils] [] .op),
  (1763, .cells 52 [.int .i64 (.ofNat 51), .int .i64 (.ofNat 63), .int .i64 (.ofNat 65), .str 1 38, .slc 1756 0 1 1 0] [] .op),
  (1775, .cells 52 [.int .i64 (.ofNat 65), .int .i64 (.ofNat 58), .int .i64 (.ofNat 59), .str 0 0, .slc 1685 0 1 1 0, .int .i64 (.ofNat 65), .int .i64 (.ofNat 63), .int .i64 (.ofNat 65), .str 0 0, .slc 1763 0 1 1 0] [] .op),
  (1879, .cells 52 [.int .i64 (.ofNat 40), .int .i64 (.ofNat 66), .int .i64 (.ofNat 67), .str 1 102, .nils] [] .op),
  (2090, .cells 52 [.int .i64 (.ofNat 40), .int .i64 (.ofNat 80), .int .i64 (.ofNat 81), .str 1 122, .nils] [] .op),
  (2096, .cells 52 [.int .i64 (.ofNat 66), .int .i64 (.ofNat 80), .int .i64 (.ofNat 83), .str 2 11051, .slc 2090 0 1 1 0] [] .op),
  (2109, .cells 52 [.int .i64 (.ofNat 10), .int .i64 (.ofNat 75), .int .i64 (.ofNat 77), .str 0 0, .nils, .int .i64 (.ofNat 12), .int .i64 (.ofNat 78), .int .i64 (.ofNat 78), .str 0 0, .nils, .int .i64 (.ofNat 60), .int .i64 (.ofNat 78), .int .i64 (.ofNat 85), .str 0 0, .slc 2096 0 1 1 5] [] .op),
  (2128, .cells 52 [.int .i64 (.ofNat 45), .int .i64 (.ofNat 71), .int .i64 (.ofNat 85), .str 0 0, .slc 2109 0 3 3 0] [] .op),
  (2140, .cells 52 [.int .i64 (.ofNat 65), .int .i64 (.ofNat 66), .int .i64 (.ofNat 67), .str 0 0, .slc 1879 0 1 1 0, .int .i64 (.ofNat 65), .int .i64 (.ofNat 71), .int .i64 (.ofNat 85), .str 0 0, .slc 2128 0 1 1 0] [] .op),
  (2242, .cells 52 [.int .i64 (.ofNat 40), .int .i64 (.ofNat 86), .int .i64 (.ofNat 87), .str 1 102, .nils] [] .op),
  (2289, .cells 52 [.int .i64 (.ofNat 48), .int .i64 (.ofNat 86), .int .i64 (.ofNat 89), .str 0 0, .slc 2242 0 1 1 0] [] .op),
  (2714, .cells 52 [.int .i64 (.ofNat 40), .int .i64 (.ofNat 126), .int .i64 (.ofNat 127), .str 1 112, .nils] [] .op),
  (2730, .cells 52 [.int .i64 (.ofNat 40), .int .i64 (.ofNat 113), .int .i64 (.ofNat 118), .str 5 482955849332, .nils, .int .i64 (.ofNat 40), .int .i64 (.ofNat 119), .int .i64 (.ofNat 120), .str 1 122, .nils, .int .i64 (.ofNat 40), .int .i64 (.ofNat 122), .int .i64 (.ofNat 123), .str 1 118, .nils, .int .i64 (.ofNat 51), .int .i64 (.ofNat 125), .int .i64 (.ofNat 127), .str 1 42, .slc 2714 0 1 1 0] [] .op),
  (2772, .cells 52 [.int .i64 (.ofNat 48), .int .i64 (.ofNat 113), .int .i64 (.ofNat 128), .str 0 0, .slc 2730 0 4 4 5] [] .op),
  (2776, .cells 52 [.int .i64 (.ofNat 71), .int .i64 (.ofNat 104), .int .i64 (.ofNat 112), .str 0 0, .nils, .int .i64 (.ofNat 61), .int .i64 (.ofNat 113), .int .i64 (.ofNat 128), .str 0 0, .slc 2772 0 1 1 0] [2440] .op),
  (2801, .cells 52 [.int .i64 (.ofNat 7), .int .i64 (.ofNat 0), .int .i64 (.ofNat 0), .str 0 0, .nils, .int .i64 (.ofNat 7), .int .i64 (.ofNat 0), .int .i64 (.ofNat 0), .str 0 0, .nils, .int .i64 (.ofNat 42), .int .i64 (.ofNat 100), .int .i64 (.ofNat 101), .str 1 50, .nils, .int .i64 (.ofNat 60), .int .i64 (.ofNat 102), .int .i64 (.ofNat 130), .str 0 0, .slc 2776 0 2 2 5] [2393] .op),
  (2805, .cells 52 [.int .i64 (.ofNat 64), .int .i64 (.ofNat 44), .int .i64 (.ofNat 50), .str 0 0, .slc 1410 0 2 2 0, .int .i64 (.ofNat 64), .int .i64 (.ofNat 51), .int .i64 (.ofNat 57), .str 0 0, .slc 1581 0 2 2 0, .int .i64 (.ofNat 64), .int .i64 (.ofNat 58), .int .i64 (.ofNat 65), .str 0 0, .slc 1775 0 2 2 0, .int .i64 (.ofNat 64), .int .i64 (.ofNat 66), .int .i64 (.ofNat 85), .str 0 0, .slc 2140 0 2 2 0, .int .i64 (.ofNat 61), .int .i64 (.ofNat 86), .int .i64 (.ofNat 89), .str 0 0, .slc 2289 0 1 1 0, .int .i64 (.ofNat 74), .int .i64 (.ofNat 90), .int .i64 (.ofNat 130), .str 0 0, .slc 2801 0 4 4 5] [2293, 2147, 1782, 1588, 1417] .op),
  (2822, .cells 52 [.int .i64 (.ofNat 7), .int .i64 (.ofNat 0), .int .i64 (.ofNat 0), .str 0 0, .nils, .int .i64 (.ofNat 40), .int .i64 (.ofNat 35), .int .i64 (.ofNat 39), .str 4 1835100526, .nils, .int .i64 (.ofNat 7), .int .i64 (.ofNat 0), .int .i64 (.ofNat 0), .str 0 0, .nils, .int .i64 (.ofNat 10), .int .i64 (.ofNat 39), .int .i64 (.ofNat 41), .str 0 0, .nils, .int .i64 (.ofNat 12), .int .i64 (.ofNat 42), .int .i64 (.ofNat 42), .str 0 0, .nils, .int .i64 (.ofNat 60), .int .i64 (.ofNat 42), .int .i64 (.ofNat 132), .str 0 0, .slc 2805 0 6 6 5] [] .op),
  (2825, .cells 52 [.int .i64 (.ofNat 40), .int .i64 (.ofNat 8), .int .i64 (.ofNat 12), .str 4 1835100526, .nils, .int .i64 (.ofNat 3), .int .i64 (.ofNat 13), .int .i64 (.ofNat 29), .str 0 0, .slc 1176 0 6 6 0, .int .i64 (.ofNat 3), .int .i64 (.ofNat 30), .int .i64 (.ofNat 132), .str 0 0, .slc 2822 0 6 6 0] [1179] .op),
  (2953, .cells 194 [.nili] [] .op),
  (2968, .cells 34 [.int .i64 (.ofNat 0), .nils] [] .op),
  (2969, .cells 62 [.int .i64 (.ofNat 1), .int .i64 (.ofNat 0), .int .i64 (.ofNat 132), .str 0 0, .slc 5996 0 3 3 5, .int .i64 (.ofNat 3), .int .i64 (.ofNat 30), .int .i64 (.ofNat 132), .str 0 0, .slc 6253 0 6 6 5, .slc 6415 0 1 2 5, .str 9 2017714366678347704163, .int .i64 (.ofNat 104), .int .i64 (.ofNat 112)] [] .op),
  (2970, .cells 63 [.nils] [] .op),
  (2972, .cells 68 [.fn (.func 19) [] [.ptr 2963 0], .fn (.func 22) [] [.ptr 2963 0, .ptr 2964 0, .ptr 2965 0, .ptr 2966 0, .ptr 2969 0], .fn (.func 24) [] [.ptr 2967 0], .fn (.func 26) [] [.ptr 2963 0, .ptr 2964 0, .ptr 2970 0], .fn (.func 28) [] [.ptr 2969 0], .fn (.func 29) [] [.ptr 2970 0, .ptr 2969 0], .fn (.func 32) [] [.ptr 2969 0, .ptr 2970 0, .ptr 2971 0]] [] .op),
  (6253, .cells 52 [.int .i64 (.ofNat 7), .int .i64 (.ofNat 0), .int .i64 (.ofNat 0), .str 0 0, .nils, .int .i64 (.ofNat 40), .int .i64 (.ofNat 35), .int .i64 (.ofNat 39), .str 4 1835100526, .nils, .int .i64 (.ofNat 7), .int .i64 (.ofNat 0), .int .i64 (.ofNat 0), .str 0 0, .nils, .int .i64 (.ofNat 10), .int .i64 (.ofNat 39), .int .i64 (.ofNat 41), .str 0 0, .nils, .int .i64 (.ofNat 12), .int .i64 (.ofNat 42), .int .i64 (.ofNat 42), .str 0 0, .nils, .int .i64 (.ofNat 60), .int .i64 (.ofNat 42), .int .i64 (.ofNat 132), .str 0 0, .slc 6273 0 6 6 5] [] .op),
  (6415, .cells 52 [.int .i64 (.ofNat 71), .int .i64 (.ofNat 104), .int .i64 (.ofNat 112), .str 0 0, .nils, .int .i64 (.ofNat 61), .int .i64 (.ofNat 113), .int .i64 (.ofNat 128), .str 0 0, .slc 6423 0 1 1 5] [] .op)]
def m2q2M : List (Nat × AB) := [(2, .cells 3 [.int .i64 (.ofNat 10), .int .i64 (.ofNat 10), .int .i64 (.ofNat 10), .int .i64 (.ofNat 10), .int .i64 (.ofNat 10), .int .i64 (.ofNat 10), .int .i64 (.ofNat 11), .int .i64 (.ofNat 11)] [] .op),
  (2968, .cells 34 [.int .i64 (.ofNat 0), .nils] [] .op),
  (2969, .cells 62 [.int .i64 (.ofNat 1), .int .i64 (.ofNat 0), .int .i64 (.ofNat 132), .str 0 0, .slc 5996 0 3 3 5, .int .i64 (.ofNat 3), .int .i64 (.ofNat 30), .int .i64 (.ofNat 132), .str 0 0, .slc 6253 0 6 6 5, .slc 6415 0 1 2 5, .str 9 2017714366678347704163, .int .i64 (.ofNat 104), .int .i64 (.ofNat 112)] [] .op),
  (2970, .cells 63 [.nils] [] .op),
  (2972, .cells 68 [.fn (.func 19) [] [.ptr 2963 0], .fn (.func 22) [] [.ptr 2963 0, .ptr 2964 0, .ptr 2965 0, .ptr 2966 0, .ptr 2969 0], .fn (.func 24) [] [.ptr 2967 0], .fn (.func 26) [] [.ptr 2963 0, .ptr 2964 0, .ptr 2970 0], .fn (.func 28) [] [.ptr 2969 0], .fn (.func 29) [] [.ptr 2970 0, .ptr 2969 0], .fn (.func 32) [] [.ptr 2969 0, .ptr 2970 0, .ptr 2971 0]] [] .op),
  (6253, .cells 52 [.int .i64 (.ofNat 7), .int .i64 (.ofNat 0), .int .i64 (.ofNat 0), .str 0 0, .nils, .int .i64 (.ofNat 40), .int .i64 (.ofNat 35), .int .i64 (.ofNat 39), .str 4 1835100526, .nils, .int .i64 (.ofNat 7), .int .i64 (.ofNat 0), .int .i64 (.ofNat 0), .str 0 0, .nils, .int .i64 (.ofNat 10), .int .i64 (.ofNat 39), .int .i64 (.ofNat 41), .str 0 0, .nils, .int .i64 (.ofNat 12), .int .i64 (.ofNat 42), .int .i64 (.ofNat 42), .str 0 0, .nils, .int .i64 (.ofNat 60), .int .i64 (.ofNat 42), .int .i64 (.ofNat 132), .str 0 0, .slc 6273 0 6 6 5] [] .op),
  (6415, .cells 52 [.int .i64 (.ofNat 71), .int .i64 (.ofNat 104), .int .i64 (.ofNat 112), .str 0 0, .nils, .int .i64 (.ofNat 61), .int .i64 (.ofNat 113), .int .i64 (.ofNat 128), .str 0 0, .slc 6423 0 1 1 5] [] .op),
  (9762, .cells 111 [.slc 7890 0 6 6 13, .slc 9635 0 13 13 3, .slc 9678 0 14 14 11, .nils, .nils, .ptr 6674 0] [] .op)]
theorem m2q2_ok : memoB (cn ext1) 27 m2q2A 6666 28 m2q2L (.slc 9762 0 1 1 6) 9763 55 m2q2M = true := by kernel_rfl
end Go.Ev
end
