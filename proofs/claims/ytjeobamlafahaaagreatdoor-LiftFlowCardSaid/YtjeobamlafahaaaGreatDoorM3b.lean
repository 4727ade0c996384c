/- Calls at given heaps, run once. -/
import Derived.Test.YtjeobamlafahaaaGreatDoorExt

section
namespace Go.Ev
set_option maxRecDepth 1000000
def m3q2A : List AV := [.ptr 9 0, .str 9 2017714366678347704163]
def m3q2L : List (Nat × AB) := [(2, .cells 3 [.int .i64 (.ofNat 10), .int .i64 (.ofNat 10), .int .i64 (.ofNat 10), .int .i64 (.ofNat 10), .int .i64 (.ofNat 10), .int .i64 (.ofNat 10), .int .i64 (.ofNat 11), .int .i64 (.ofNat 11)] [] .op),
  (8, .map [(.str 9 2017714366678347704163, .agg [.str 139 24423386179561236138706053670132461139036294410244589188873281543474629985766253977380050328409362804996034341700036095679656192511650661221656928530562173073745532013018270926479813441947401980534046966839472379688022429645086325837303608634314045799324479426184234569018964922232165733426670242923217404127515299148512519726113127690, .int .i64 (.ofNat 1), .int .i64 (.ofNat 0), .int .i64 (.ofNat 138), .str 0 0, .slc 2934 0 3 3 5, .ptr 3066 0, .str 4 1835100526, .nils], 0)] 1),
  (9, .cells 47 [.map 8, .slc 36 0 1 1 1, .nils] [] .op),
  (36, .cells 9 [.str 9 2017714366678347704163] [] .op),
  (1233, .cells 52 [.int .i64 (.ofNat 7), .int .i64 (.ofNat 0), .int .i64 (.ofNat 0), .str 0 0, .nils, .int .i64 (.ofNat 40), .int .i64 (.ofNat 18), .int .i64 (.ofNat 24), .str 6 123636697429042, .nils, .int .i64 (.ofNat 7), .int .i64 (.ofNat 0), .int .i64 (.ofNat 0), .str 0 0, .nils, .int .i64 (.ofNat 10), .int .i64 (.ofNat 24), .int .i64 (.ofNat 26), .str 0 0, .nils, .int .i64 (.ofNat 12), .int .i64 (.ofNat 27), .int .i64 (.ofNat 27), .str 0 0, .nils, .int .i64 (.ofNat 60), .int .i64 (.ofNat 27), .int .i64 (.ofNat 29), .str 0 0, .nils] [] .op),
  (1400, .cells 52 [.int .i64 (.ofNat 40), .int .i64 (.ofNat 44), .int .i64 (.ofNat 45), .str 1 122, .nils] [] .op),
  (1455, .cells 52 [.int .i64 (.ofNat 42), .int .i64 (.ofNat 49), .int .i64 (.ofNat 50), .str 1 48, .nils] [] .op),
  (1467, .cells 52 [.int .i64 (.ofNat 65), .int .i64 (.ofNat 44), .int .i64 (.ofNat 45), .str 0 0, .slc 1400 0 1 1 0, .int .i64 (.ofNat 65), .int .i64 (.ofNat 49), .int .i64 (.ofNat 50), .str 0 0, .slc 1455 0 1 1 0] [] .op),
  (1571, .cells 52 [.int .i64 (.ofNat 40), .int .i64 (.ofNat 51), .int .i64 (.ofNat 52), .str 1 118, .nils] [] .op),
  (1626, .cells 52 [.int .i64 (.ofNat 42), .int .i64 (.ofNat 56), .int .i64 (.ofNat 57), .str 1 49, .nils] [] .op),
  (1638, .cells 52 [.int .i64 (.ofNat 65), .int .i64 (.ofNat 51), .int .i64 (.ofNat 52), .str 0 0, .slc 1571 0 1 1 0, .int .i64 (.ofNat 65), .int .i64 (.ofNat 56), .int .i64 (.ofNat 57), .str 0 0, .slc 1626 0 1 1 0] [] .op),
  (1742, .cells 52 [.int .i64 (.ofNat 40), .int .i64 (.ofNat 58), .int .i64 (.ofNat 59), .str 1 112, .nils] [] .op),
  (1813, .cells 52 [.int .i64 (.ofNat 40), .int .i64 (.ofNat 64), .int .i64 (.ofNat 65), .str 1 118, .nils] [] .op),
  (1820, .cells 52 [.int .i64 (.ofNat 51), .int .i64 (.ofNat 63), .int .i64 (.ofNat 65), .str 1 38, .slc 1813 0 1 1 0] [] .op),
  (1832, .cells 52 [.int .i64 (.ofNat 65), .int .i64 (.ofNat 58), .int .i64 (.ofNat 59), .str 0 0, .slc 1742 0 1 1 0, .int .i64 (.ofNat 65), .int .i64 (.ofNat 63), .int .i64 (.ofNat 65), .str 0 0, .slc 1820 0 1 1 0] [] .op),
  (1936, .cells 52 [.int .i64 (.ofNat 40), .int .i64 (.ofNat 66), .int .i64 (.ofNat 67), .str 1 102, .nils] [] .op),
  (2147, .cells 52 [.int .i64 (.ofNat 40), .int .i64 (.ofNat 80), .int .i64 (.ofNat 81), .str 1 122, .nils] [] .op),
  (2153, .cells 52 [.int .i64 (.ofNat 66), .int .i64 (.ofNat 80), .int .i64 (.ofNat 83), .str 2 11051, .slc 2147 0 1 1 0] [] .op),
  (2166, .cells 52 [.int .i64 (.ofNat 10), .int .i64 (.ofNat 75), .int .i64 (.ofNat 77), .str 0 0, .nils, .int .i64 (.ofNat 12), .int .i64 (.ofNat 78), .int .i64 (.ofNat 78), .str 0 0, .nils, .int .i64 (.ofNat 60), .int .i64 (.ofNat 78), .int .i64 (.ofNat 85), .str 0 0, .slc 2153 0 1 1 5] [] .op),
  (2185, .cells 52 [.int .i64 (.ofNat 45), .int .i64 (.ofNat 71), .int .i64 (.ofNat 85), .str 0 0, .slc 2166 0 3 3 0] [] .op),
  (2197, .cells 52 [.int .i64 (.ofNat 65), .int .i64 (.ofNat 66), .int .i64 (.ofNat 67), .str 0 0, .slc 1936 0 1 1 0, .int .i64 (.ofNat 65), .int .i64 (.ofNat 71), .int .i64 (.ofNat 85), .str 0 0, .slc 2185 0 1 1 0] [] .op),
  (2299, .cells 52 [.int .i64 (.ofNat 40), .int .i64 (.ofNat 86), .int .i64 (.ofNat 87), .str 1 102, .nils] [] .op),
  (2346, .cells 52 [.int .i64 (.ofNat 48), .int .i64 (.ofNat 86), .int .i64 (.ofNat 89), .str 0 0, .slc 2299 0 1 1 0] [] .op),
  (2521, .cells 52 [.int .i64 (.ofNat 40), .int .i64 (.ofNat 110), .int .i64 (.ofNat 116), .str 6 123636697429042, .nils] [] .op),
  (2545, .cells 52 [.int .i64 (.ofNat 48), .int .i64 (.ofNat 110), .int .i64 (.ofNat 118), .str 0 0, .slc 2521 0 1 1 0] [] .op),
  (2823, .cells 52 [.int .i64 (.ofNat 40), .int .i64 (.ofNat 132), .int .i64 (.ofNat 133), .str 1 112, .nils] [] .op),
  (2839, .cells 52 [.int .i64 (.ofNat 40), .int .i64 (.ofNat 119), .int .i64 (.ofNat 124), .str 5 482955849332, .nils, .int .i64 (.ofNat 40), .int .i64 (.ofNat 125), .int .i64 (.ofNat 126), .str 1 122, .nils, .int .i64 (.ofNat 40), .int .i64 (.ofNat 128), .int .i64 (.ofNat 129), .str 1 118, .nils, .int .i64 (.ofNat 51), .int .i64 (.ofNat 131), .int .i64 (.ofNat 133), .str 1 42, .slc 2823 0 1 1 0] [] .op),
  (2881, .cells 52 [.int .i64 (.ofNat 48), .int .i64 (.ofNat 119), .int .i64 (.ofNat 134), .str 0 0, .slc 2839 0 4 4 5] [] .op),
  (2885, .cells 52 [.int .i64 (.ofNat 68), .int .i64 (.ofNat 104), .int .i64 (.ofNat 118), .str 0 0, .slc 2545 0 1 1 0, .int .i64 (.ofNat 61), .int .i64 (.ofNat 119), .int .i64 (.ofNat 134), .str 0 0, .slc 2881 0 1 1 0] [2549] .op),
  (2910, .cells 52 [.int .i64 (.ofNat 7), .int .i64 (.ofNat 0), .int .i64 (.ofNat 0), .str 0 0, .nils, .int .i64 (.ofNat 7), .int .i64 (.ofNat 0), .int .i64 (.ofNat 0), .str 0 0, .nils, .int .i64 (.ofNat 42), .int .i64 (.ofNat 100), .int .i64 (.ofNat 101), .str 1 50, .nils, .int .i64 (.ofNat 60), .int .i64 (.ofNat 102), .int .i64 (.ofNat 136), .str 0 0, .slc 2885 0 2 2 5] [2450] .op),
  (2914, .cells 52 [.int .i64 (.ofNat 64), .int .i64 (.ofNat 44), .int .i64 (.ofNat 50), .str 0 0, .slc 1467 0 2 2 0, .int .i64 (.ofNat 64), .int .i64 (.ofNat 51), .int .i64 (.ofNat 57), .str 0 0, .slc 1638 0 2 2 0, .int .i64 (.ofNat 64), .int .i64 (.ofNat 58), .int .i64 (.ofNat 65), .str 0 0, .slc 1832 0 2 2 0, .int .i64 (.ofNat 64), .int .i64 (.ofNat 66), .int .i64 (.ofNat 85), .str 0 0, .slc 2197 0 2 2 0, .int .i64 (.ofNat 61), .int .i64 (.ofNat 86), .int .i64 (.ofNat 89), .str 0 0, .slc 2346 0 1 1 0, .int .i64 (.ofNat 74), .int .i64 (.ofNat 90), .int .i64 (.ofNat 136), .str 0 0, .slc 2910 0 4 4 5] [2350, 2204, 1839, 1645, 1474] .op),
  (2931, .cells 52 [.int .i64 (.ofNat 7), .int .i64 (.ofNat 0), .int .i64 (.ofNat 0), .str 0 0, .nils, .int .i64 (.ofNat 40), .int .i64 (.ofNat 35), .int .i64 (.ofNat 39), .str 4 1835100526, .nils, .int .i64 (.ofNat 7), .int .i64 (.ofNat 0), .int .i64 (.ofNat 0), .str 0 0, .nils, .int .i64 (.ofNat 10), .int .i64 (.ofNat 39), .int .i64 (.ofNat 41), .str 0 0, .nils, .int .i64 (.ofNat 12), .int .i64 (.ofNat 42), .int .i64 (.ofNat 42), .str 0 0, .nils, .int .i64 (.ofNat 60), .int .i64 (.ofNat 42), .int .i64 (.ofNat 138), .str 0 0, .slc 2914 0 6 6 5] [] .op),
  (2934, .cells 52 [.int .i64 (.ofNat 40), .int .i64 (.ofNat 8), .int .i64 (.ofNat 12), .str 4 1835100526, .nils, .int .i64 (.ofNat 3), .int .i64 (.ofNat 13), .int .i64 (.ofNat 29), .str 0 0, .slc 1233 0 6 6 0, .int .i64 (.ofNat 3), .int .i64 (.ofNat 30), .int .i64 (.ofNat 138), .str 0 0, .slc 2931 0 6 6 0] [1236] .op),
  (3066, .cells 194 [.nili] [] .op),
  (3081, .cells 34 [.int .i64 (.ofNat 0), .nils] [] .op),
  (3082, .cells 62 [.int .i64 (.ofNat 1), .int .i64 (.ofNat 0), .int .i64 (.ofNat 138), .str 0 0, .slc 6281 0 3 3 5, .int .i64 (.ofNat 3), .int .i64 (.ofNat 30), .int .i64 (.ofNat 138), .str 0 0, .slc 6548 0 6 6 5, .slc 6710 0 1 2 5, .str 9 2017714366678347704163, .int .i64 (.ofNat 104), .int .i64 (.ofNat 118)] [] .op),
  (3083, .cells 63 [.nils] [] .op),
  (3085, .cells 68 [.fn (.func 19) [] [.ptr 3076 0], .fn (.func 22) [] [.ptr 3076 0, .ptr 3077 0, .ptr 3078 0, .ptr 3079 0, .ptr 3082 0], .fn (.func 24) [] [.ptr 3080 0], .fn (.func 26) [] [.ptr 3076 0, .ptr 3077 0, .ptr 3083 0], .fn (.func 28) [] [.ptr 3082 0], .fn (.func 29) [] [.ptr 3083 0, .ptr 3082 0], .fn (.func 32) [] [.ptr 3082 0, .ptr 3083 0, .ptr 3084 0]] [] .op),
  (6548, .cells 52 [.int .i64 (.ofNat 7), .int .i64 (.ofNat 0), .int .i64 (.ofNat 0), .str 0 0, .nils, .int .i64 (.ofNat 40), .int .i64 (.ofNat 35), .int .i64 (.ofNat 39), .str 4 1835100526, .nils, .int .i64 (.ofNat 7), .int .i64 (.ofNat 0), .int .i64 (.ofNat 0), .str 0 0, .nils, .int .i64 (.ofNat 10), .int .i64 (.ofNat 39), .int .i64 (.ofNat 41), .str 0 0, .nils, .int .i64 (.ofNat 12), .int .i64 (.ofNat 42), .int .i64 (.ofNat 42), .str 0 0, .nils, .int .i64 (.ofNat 60), .int .i64 (.ofNat 42), .int .i64 (.ofNat 138), .str 0 0, .slc 6568 0 6 6 5] [] .op),
  (6710, .cells 52 [.int .i64 (.ofNat 68), .int .i64 (.ofNat 104), .int .i64 (.ofNat 118), .str 0 0, .slc 6715 0 1 1 5, .int .i64 (.ofNat 61), .int .i64 (.ofNat 119), .int .i64 (.ofNat 134), .str 0 0, .slc 6728 0 1 1 5] [] .op),
  (6715, .cells 52 [.int .i64 (.ofNat 48), .int .i64 (.ofNat 110), .int .i64 (.ofNat 118), .str 0 0, .slc 6720 0 1 1 5] [] .op),
  (6720, .cells 52 [.int .i64 (.ofNat 40), .int .i64 (.ofNat 110), .int .i64 (.ofNat 116), .str 6 123636697429042, .nils] [] .op)]
def m3q2M : List (Nat × AB) := [(2, .cells 3 [.int .i64 (.ofNat 10), .int .i64 (.ofNat 10), .int .i64 (.ofNat 10), .int .i64 (.ofNat 10), .int .i64 (.ofNat 10), .int .i64 (.ofNat 10), .int .i64 (.ofNat 11), .int .i64 (.ofNat 11)] [] .op),
  (3081, .cells 34 [.int .i64 (.ofNat 0), .nils] [] .op),
  (3082, .cells 62 [.int .i64 (.ofNat 1), .int .i64 (.ofNat 0), .int .i64 (.ofNat 138), .str 0 0, .slc 6281 0 3 3 5, .int .i64 (.ofNat 3), .int .i64 (.ofNat 30), .int .i64 (.ofNat 138), .str 0 0, .slc 6548 0 6 6 5, .slc 6710 0 1 2 5, .str 9 2017714366678347704163, .int .i64 (.ofNat 104), .int .i64 (.ofNat 118)] [] .op),
  (3083, .cells 63 [.nils] [] .op),
  (3085, .cells 68 [.fn (.func 19) [] [.ptr 3076 0], .fn (.func 22) [] [.ptr 3076 0, .ptr 3077 0, .ptr 3078 0, .ptr 3079 0, .ptr 3082 0], .fn (.func 24) [] [.ptr 3080 0], .fn (.func 26) [] [.ptr 3076 0, .ptr 3077 0, .ptr 3083 0], .fn (.func 28) [] [.ptr 3082 0], .fn (.func 29) [] [.ptr 3083 0, .ptr 3082 0], .fn (.func 32) [] [.ptr 3082 0, .ptr 3083 0, .ptr 3084 0]] [] .op),
  (6548, .cells 52 [.int .i64 (.ofNat 7), .int .i64 (.ofNat 0), .int .i64 (.ofNat 0), .str 0 0, .nils, .int .i64 (.ofNat 40), .int .i64 (.ofNat 35), .int .i64 (.ofNat 39), .str 4 1835100526, .nils, .int .i64 (.ofNat 7), .int .i64 (.ofNat 0), .int .i64 (.ofNat 0), .str 0 0, .nils, .int .i64 (.ofNat 10), .int .i64 (.ofNat 39), .int .i64 (.ofNat 41), .str 0 0, .nils, .int .i64 (.ofNat 12), .int .i64 (.ofNat 42), .int .i64 (.ofNat 42), .str 0 0, .nils, .int .i64 (.ofNat 60), .int .i64 (.ofNat 42), .int .i64 (.ofNat 138), .str 0 0, .slc 6568 0 6 6 5] [] .op),
  (6710, .cells 52 [.int .i64 (.ofNat 68), .int .i64 (.ofNat 104), .int .i64 (.ofNat 118), .str 0 0, .slc 6715 0 1 1 5, .int .i64 (.ofNat 61), .int .i64 (.ofNat 119), .int .i64 (.ofNat 134), .str 0 0, .slc 6728 0 1 1 5] [] .op),
  (6715, .cells 52 [.int .i64 (.ofNat 48), .int .i64 (.ofNat 110), .int .i64 (.ofNat 118), .str 0 0, .slc 6720 0 1 1 5] [] .op),
  (6720, .cells 52 [.int .i64 (.ofNat 40), .int .i64 (.ofNat 110), .int .i64 (.ofNat 116), .str 6 123636697429042, .nils] [] .op),
  (10245, .cells 111 [.slc 8242 0 6 6 13, .slc 10106 0 14 14 3, .slc 10155 0 16 16 11, .nils, .nils, .ptr 6979 0] [] .op)]
theorem m3q2_ok : memoB (cn ext1) 27 m3q2A 6971 31 m3q2L (.slc 10245 0 1 1 6) 10246 61 m3q2M = true := by kernel_rfl
end Go.Ev
end
