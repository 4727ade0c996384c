/- Calls at given heaps, run once. -/
import Derived.Test.YtjeobamlafahaaaGreatDoorExt

section
namespace Go.Ev
set_option maxRecDepth 1000000
def m0q2A : List AV := [.ptr 9 0, .str 9 2017714366678347704163]
def m0q2L : List (Nat × AB) := [(2, .cells 3 [.int .i64 (.ofNat 10), .int .i64 (.ofNat 10), .int .i64 (.ofNat 10), .int .i64 (.ofNat 10), .int .i64 (.ofNat 10), .int .i64 (.ofNat 10), .int .i64 (.ofNat 11), .int .i64 (.ofNat 11)] [] .op),
  (8, .map [(.str 9 2017714366678347704163, .agg [.str 131 1323994417766636825612165980616748516334742550304675125492030130353007430248072207034382452508340286781659533122759236905394933408989180326180387329733485598644550157802110845841638987163788584811867656890425739890042833521459609562336934579892939198353749754674821737868011845453053710970463042285510243170747317514, .int .i64 (.ofNat 1), .int .i64 (.ofNat 0), .int .i64 (.ofNat 130), .str 0 0, .slc 2823 0 3 3 5, .ptr 2951 0, .str 4 1835100526, .nils], 0)] 1),
  (9, .cells 47 [.map 8, .slc 36 0 1 1 1, .nils] [] .op),
  (36, .cells 9 [.str 9 2017714366678347704163] [] .op),
  (1176, .cells 52 [.int .i64 (.ofNat 7), .int .i64 (.ofNat 0), .int .i64 (.ofNat 0), .str 0 0, .nils, .int .i64 (.ofNat 40), .int .i64 (.ofNat 18), .int .i64 (.ofNat 24), .str 6 123636697429042, .nils, .int .i64 (.ofNat 7), .int .i64 (.ofNat 0), .int .i64 (.ofNat 0), .str 0 0, .nils, .int .i64 (.ofNat 10), .int .i64 (.ofNat 24), .int .i64 (.ofNat 26), .str 0 0, .nils, .int .i64 (.ofNat 12), .int .i64 (.ofNat 27), .int .i64 (.ofNat 27), .str 0 0, .nils, .int .i64 (.ofNat 60), .int .i64 (.ofNat 27), .int .i64 (.ofNat 29), .str 0 0, .nils] [] .op),
  (1343, .cells 52 [.int .i64 (.ofNat 40), .int .i64 (.ofNat 44), .int .i64 (.ofNat 45), .str 1 122, .nils] [] .op),
  (1398, .cells 52 [.int .i64 (.ofNat 42), .int .i64 (.ofNat 49), .int .i64 (.ofNat 50), .str 1 48, .nils] [] .op),
  (1410, .cells 52 [.int .i64 (.ofNat 65), .int .i64 (.ofNat 44), .int .i64 (.ofNat 45), .str 0 0, .slc 1343 0 1 1 0, .int .i64 (.ofNat 65), .int .i64 (.ofNat 49), .int .i64 (.ofNat 50), .str 0 0, .slc 1398 0 1 1 0] [] .op),
  (1514, .cells 52 [.int .i64 (.ofNat 40), .int .i64 (.ofNat 51), .int .i64 (.ofNat 52), .str 1 118, .nils] [] .op),
  (1569, .cells 52 [.int .i64 (.ofNat 42), .int .i64 (.ofNat 56), .int .i64 (.ofNat 57), .str 1 49, .nils] [] .op),
  (1581, .cells 52 [.int .i64 (.ofNat 65), .int .i64 (.ofNat 51), .int .i64 (.ofNat 52), .str 0 0, .slc 1514 0 1 1 0, .int .i64 (.ofNat 65), .int .i64 (.ofNat 56), .int .i64 (.ofNat 57), .str 0 0, .slc 1569 0 1 1 0] [] .op),
  (1685, .cells 52 [.int .i64 (.ofNat 40), .int .i64 (.ofNat 58), .int .i64 (.ofNat 59), .str 1 112, .nils] [] .op),
  (1756, .cells 52 [.int .i64 (.ofNat 40), .int .i64 (.ofNat 64), .int .i64 (.ofNat 65), .str 1 118, .nils] [] .op),
  (1763, .cells 52 [.int .i64 (.ofNat 51), .int .i64 (.ofNat 63), .int .i64 (.ofNat 65), .str 1 38, .slc 1756 0 1 1 0] [] .op),
  (1775, .cells 52 [.int .i64 (.ofNat 65), .int .i64 (.ofNat 58), .int .i64 (.ofNat 59), .str 0 0, .slc 1685 0 1 1 0, .int .i64 (.ofNat 65), .int .i64 (.ofNat 63), .int .i64 (.ofNat 65), .str 0 0, .slc 1763 0 1 1 0] [] .op),
  (1879, .cells 52 [.int .i64 (.ofNat 40), .int .i64 (.ofNat 66), .int .i64 (.ofNat 67), .str 1 102, .nils] [] .op),
  (2090, .cells 52 [.int .i64 (.ofNat 40), .int .i64 (.ofNat 80), .int .i64 (.ofNat 81), .str 1 122, .nils] [] .op),
  (2096, .cells 52 [.int .i64 (.ofNat 66), .int .i64 (.ofNat 80), .int .i64 (.ofNat 83), .str 2 11051, .slc 2090 0 1 1 0] [] .op),
  (2109, .cells 52 [.int .i64 (.ofNat 10), .int .i64 (.ofNat 75), .int .i64 (.ofNat 77), .str 0 0, .nils, .int .i64 (.ofNat 12), .int .i64 (.ofNat 78), .int .i64 (.ofNat 78), .str 0 0, .nils, .int .i64 (.ofNat 60), .int .i64 (.ofNat 78), .int .i64 (.ofNat 85), .str 0 0, .slc 2096 0 1 1 5] [] .op),
  (2128, .cells 52 [.int .i64 (.ofNat 45), .int .i64 (.ofNat 71), .int .i64 (.ofNat 85), .str 0 0, .slc 2109 0 3 3 0] [] .op),
  (2140, .cells 52 [.int .i64 (.ofNat 65), .int .i64 (.ofNat 66), .int .i64 (.ofNat 67), .str 0 0, .slc 1879 0 1 1 0, .int .i64 (.ofNat 65), .int .i64 (.ofNat 71), .int .i64 (.ofNat 85), .str 0 0, .slc 2128 0 1 1 0] [] .op),
  (2242, .cells 52 [.int .i64 (.ofNat 40), .int .i64 (.ofNat 86), .int .i64 (.ofNat 87), .str 1 102, .nils] [] .op),
  (2289, .cells 52 [.int .i64 (.ofNat 48), .int .i64 (.ofNat 86), .int .i64 (.ofNat 89), .str 0 0, .slc 2242 0 1 1 0] [] .op),
  (2712, .cells 52 [.int .i64 (.ofNat 40), .int .i64 (.ofNat 124), .int .i64 (.ofNat 125), .str 1 112, .nils] [] .op),
  (2728, .cells 52 [.int .i64 (.ofNat 40), .int .i64 (.ofNat 111), .int .i64 (.ofNat 116), .str 5 482955849332, .nils, .int .i64 (.ofNat 40), .int .i64 (.ofNat 117), .int .i64 (.ofNat 118), .str 1 122, .nils, .int .i64 (.ofNat 40), .int .i64 (.ofNat 120), .int .i64 (.ofNat 121), .str 1 118, .nils, .int .i64 (.ofNat 51), .int .i64 (.ofNat 123), .int .i64 (.ofNat 125), .str 1 42, .slc 2712 0 1 1 0] [] .op),
  (2770, .cells 52 [.int .i64 (.ofNat 48), .int .i64 (.ofNat 111), .int .i64 (.ofNat 126), .str 0 0, .slc 2728 0 4 4 5] [] .op),
  (2774, .cells 52 [.int .i64 (.ofNat 69), .int .i64 (.ofNat 104), .int .i64 (.ofNat 110), .str 0 0, .nils, .int .i64 (.ofNat 61), .int .i64 (.ofNat 111), .int .i64 (.ofNat 126), .str 0 0, .slc 2770 0 1 1 0] [2438] .op),
  (2799, .cells 52 [.int .i64 (.ofNat 7), .int .i64 (.ofNat 0), .int .i64 (.ofNat 0), .str 0 0, .nils, .int .i64 (.ofNat 7), .int .i64 (.ofNat 0), .int .i64 (.ofNat 0), .str 0 0, .nils, .int .i64 (.ofNat 42), .int .i64 (.ofNat 100), .int .i64 (.ofNat 101), .str 1 50, .nils, .int .i64 (.ofNat 60), .int .i64 (.ofNat 102), .int .i64 (.ofNat 128), .str 0 0, .slc 2774 0 2 2 5] [2393] .op),
  (2803, .cells 52 [.int .i64 (.ofNat 64), .int .i64 (.ofNat 44), .int .i64 (.ofNat 50), .str 0 0, .slc 1410 0 2 2 0, .int .i64 (.ofNat 64), .int .i64 (.ofNat 51), .int .i64 (.ofNat 57), .str 0 0, .slc 1581 0 2 2 0, .int .i64 (.ofNat 64), .int .i64 (.ofNat 58), .int .i64 (.ofNat 65), .str 0 0, .slc 1775 0 2 2 0, .int .i64 (.ofNat 64), .int .i64 (.ofNat 66), .int .i64 (.ofNat 85), .str 0 0, .slc 2140 0 2 2 0, .int .i64 (.ofNat 61), .int .i64 (.ofNat 86), .int .i64 (.ofNat 89), .str 0 0, .slc 2289 0 1 1 0, .int .i64 (.ofNat 74), .int .i64 (.ofNat 90), .int .i64 (.ofNat 128), .str 0 0, .slc 2799 0 4 4 5] [2293, 2147, 1782, 1588, 1417] .op),
  (2820, .cells 52 [.int .i64 (.ofNat 7), .int .i64 (.ofNat 0), .int .i64 (.ofNat 0), .str 0 0, .nils, .int .i64 (.ofNat 40), .int .i64 (.ofNat 35), .int .i64 (.ofNat 39), .str 4 1835100526, .nils, .int .i64 (.ofNat 7), .int .i64 (.ofNat 0), .int .i64 (.ofNat 0), .str 0 0, .nils, .int .i64 (.ofNat 10), .int .i64 (.ofNat 39), .int .i64 (.ofNat 41), .str 0 0, .nils, .int .i64 (.ofNat 12), .int .i64 (.ofNat 42), .int .i64 (.ofNat 42), .str 0 0, .nils, .int .i64 (.ofNat 60), .int .i64 (.ofNat 42), .int .i64 (.ofNat 130), .str 0 0, .slc 2803 0 6 6 5] [] .op),
  (2823, .cells 52 [.int .i64 (.ofNat 40), .int .i64 (.ofNat 8), .int .i64 (.ofNat 12), .str 4 1835100526, .nils, .int .i64 (.ofNat 3), .int .i64 (.ofNat 13), .int .i64 (.ofNat 29), .str 0 0, .slc 1176 0 6 6 0, .int .i64 (.ofNat 3), .int .i64 (.ofNat 30), .int .i64 (.ofNat 130), .str 0 0, .slc 2820 0 6 6 0] [1179] .op),
  (2951, .cells 194 [.nili] [] .op),
  (2966, .cells 34 [.int .i64 (.ofNat 0), .nils] [] .op),
  (2967, .cells 62 [.int .i64 (.ofNat 1), .int .i64 (.ofNat 0), .int .i64 (.ofNat 130), .str 0 0, .slc 5994 0 3 3 5, .int .i64 (.ofNat 3), .int .i64 (.ofNat 30), .int .i64 (.ofNat 130), .str 0 0, .slc 6251 0 6 6 5, .slc 6413 0 1 2 5, .str 9 2017714366678347704163, .int .i64 (.ofNat 104), .int .i64 (.ofNat 110)] [] .op),
  (2968, .cells 63 [.nils] [] .op),
  (2970, .cells 68 [.fn (.func 19) [] [.ptr 2961 0], .fn (.func 22) [] [.ptr 2961 0, .ptr 2962 0, .ptr 2963 0, .ptr 2964 0, .ptr 2967 0], .fn (.func 24) [] [.ptr 2965 0], .fn (.func 26) [] [.ptr 2961 0, .ptr 2962 0, .ptr 2968 0], .fn (.func 28) [] [.ptr 2967 0], .fn (.func 29) [] [.ptr 2968 0, .ptr 2967 0], .fn (.func 32) [] [.ptr 2967 0, .ptr 2968 0, .ptr 2969 0]] [] .op),
  (6251, .cells 52 [.int .i64 (.ofNat 7), .int .i64 (.ofNat 0), .int .i64 (.ofNat 0), .str 0 0, .nils, .int .i64 (.ofNat 40), .int .i64 (.ofNat 35), .int .i64 (.ofNat 39), .str 4 1835100526, .nils, .int .i64 (.ofNat 7), .int .i64 (.ofNat 0), .int .i64 (.ofNat 0), .str 0 0, .nils, .int .i64 (.ofNat 10), .int .i64 (.ofNat 39), .int .i64 (.ofNat 41), .str 0 0, .nils, .int .i64 (.ofNat 12), .int .i64 (.ofNat 42), .int .i64 (.ofNat 42), .str 0 0, .nils, .int .i64 (.ofNat 60), .int .i64 (.ofNat 42), .int .i64 (.ofNat 130), .str 0 0, .slc 6271 0 6 6 5] [] .op),
  (6413, .cells 52 [.int .i64 (.ofNat 69), .int .i64 (.ofNat 104), .int .i64 (.ofNat 110), .str 0 0, .nils, .int .i64 (.ofNat 61), .int .i64 (.ofNat 111), .int .i64 (.ofNat 126), .str 0 0, .slc 6421 0 1 1 5] [] .op)]
def m0q2M : List (Nat × AB) := [(2, .cells 3 [.int .i64 (.ofNat 10), .int .i64 (.ofNat 10), .int .i64 (.ofNat 10), .int .i64 (.ofNat 10), .int .i64 (.ofNat 10), .int .i64 (.ofNat 10), .int .i64 (.ofNat 11), .int .i64 (.ofNat 11)] [] .op),
  (2966, .cells 34 [.int .i64 (.ofNat 0), .nils] [] .op),
  (2967, .cells 62 [.int .i64 (.ofNat 1), .int .i64 (.ofNat 0), .int .i64 (.ofNat 130), .str 0 0, .slc 5994 0 3 3 5, .int .i64 (.ofNat 3), .int .i64 (.ofNat 30), .int .i64 (.ofNat 130), .str 0 0, .slc 6251 0 6 6 5, .slc 6413 0 1 2 5, .str 9 2017714366678347704163, .int .i64 (.ofNat 104), .int .i64 (.ofNat 110)] [] .op),
  (2968, .cells 63 [.nils] [] .op),
  (2970, .cells 68 [.fn (.func 19) [] [.ptr 2961 0], .fn (.func 22) [] [.ptr 2961 0, .ptr 2962 0, .ptr 2963 0, .ptr 2964 0, .ptr 2967 0], .fn (.func 24) [] [.ptr 2965 0], .fn (.func 26) [] [.ptr 2961 0, .ptr 2962 0, .ptr 2968 0], .fn (.func 28) [] [.ptr 2967 0], .fn (.func 29) [] [.ptr 2968 0, .ptr 2967 0], .fn (.func 32) [] [.ptr 2967 0, .ptr 2968 0, .ptr 2969 0]] [] .op),
  (6251, .cells 52 [.int .i64 (.ofNat 7), .int .i64 (.ofNat 0), .int .i64 (.ofNat 0), .str 0 0, .nils, .int .i64 (.ofNat 40), .int .i64 (.ofNat 35), .int .i64 (.ofNat 39), .str 4 1835100526, .nils, .int .i64 (.ofNat 7), .int .i64 (.ofNat 0), .int .i64 (.ofNat 0), .str 0 0, .nils, .int .i64 (.ofNat 10), .int .i64 (.ofNat 39), .int .i64 (.ofNat 41), .str 0 0, .nils, .int .i64 (.ofNat 12), .int .i64 (.ofNat 42), .int .i64 (.ofNat 42), .str 0 0, .nils, .int .i64 (.ofNat 60), .int .i64 (.ofNat 42), .int .i64 (.ofNat 130), .str 0 0, .slc 6271 0 6 6 5] [] .op),
  (6413, .cells 52 [.int .i64 (.ofNat 69), .int .i64 (.ofNat 104), .int .i64 (.ofNat 110), .str 0 0, .nils, .int .i64 (.ofNat 61), .int .i64 (.ofNat 111), .int .i64 (.ofNat 126), .str 0 0, .slc 6421 0 1 1 5] [] .op),
  (9760, .cells 111 [.slc 7888 0 6 6 13, .slc 9633 0 13 13 3, .slc 9676 0 14 14 11, .nils, .nils, .ptr 6672 0] [] .op)]
theorem m0q2_ok : memoB (cn ext1) 27 m0q2A 6664 28 m0q2L (.slc 9760 0 1 1 6) 9761 55 m0q2M = true := by kernel_rfl
end Go.Ev
end
