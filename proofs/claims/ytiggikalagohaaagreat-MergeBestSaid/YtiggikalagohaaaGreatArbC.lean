/-
  THE FUNCTIONS OF THE PROGRAM FOR THE ABSTRACT MACHINE: printed by gen.py.
-/
import Derived.Test.YtiggikalagohaaaGreatArbA
import Derived.Test.YtiggikalagohaaaGreatArbB
namespace Arb
open Go
/-- arbour/arbourlaw13.awake -/
def F4 : IFn := ⟨0, [.t 0],
   .seq (.rgn false [⟨some 0, .mov (.c (.bool false)), none, []⟩] [])
   (.seq (.rgn false [⟨some 17, .call 3 (.c (.fn 12 [])) [.c (.int .i64 (1)), .c (.int .i64 (5))], none, []⟩,
    ⟨some 18, .call 3 (.c (.fn 12 [])) [.c (.int .i64 (6)), .c (.int .i64 (9))], none, []⟩,
    ⟨some 19, .call 3 (.c (.fn 10 [])) [.t 17, .t 18], none, []⟩,
    ⟨some 16, .mov (.t 19), none, []⟩,
    ⟨some 20, .ext (.t 16) 0, none, []⟩,
    ⟨some 21, .ext (.t 16) 1, none, []⟩,
    ⟨some 1, .mov (.t 20), none, []⟩,
    ⟨some 2, .mov (.t 21), none, []⟩] [1, 2])
   (.seq (.rgn false [⟨some 23, .call 3 (.c (.fn 12 [])) [.c (.int .i64 (9)), .c (.int .i64 (12))], none, []⟩,
    ⟨some 24, .call 3 (.c (.fn 12 [])) [.c (.int .i64 (1)), .c (.int .i64 (5))], none, []⟩,
    ⟨some 25, .call 3 (.c (.fn 7 [])) [.t 23, .t 24], none, []⟩,
    ⟨some 22, .mov (.t 25), none, []⟩,
    ⟨some 26, .ext (.t 22) 0, none, []⟩,
    ⟨some 27, .ext (.t 22) 1, none, []⟩,
    ⟨some 28, .ext (.t 22) 2, none, []⟩,
    ⟨some 3, .mov (.t 26), none, []⟩,
    ⟨some 4, .mov (.t 27), none, []⟩,
    ⟨some 5, .mov (.t 28), none, []⟩] [1, 2, 3, 4, 5])
   (.seq (.rgn false [⟨some 30, .call 3 (.c (.fn 12 [])) [.c (.int .i64 (1)), .c (.int .i64 (5))], none, []⟩,
    ⟨some 31, .call 3 (.c (.fn 10 [])) [.t 30, .c (.nsl 16)], none, []⟩,
    ⟨some 29, .mov (.t 31), none, []⟩,
    ⟨some 32, .ext (.t 29) 0, none, []⟩,
    ⟨some 33, .ext (.t 29) 1, none, []⟩,
    ⟨some 6, .mov (.t 32), none, []⟩,
    ⟨some 7, .mov (.t 33), none, []⟩] [1, 2, 3, 4, 5, 7])
   (.seq (.rgn false [⟨some 35, .call 3 (.c (.fn 12 [])) [.c (.int .i64 (1)), .c (.int .i64 (5))], none, []⟩,
    ⟨some 36, .build [.int .i64 0, .nsl 16, .int .u64 0] [(1, 1, .t 35), (2, 1, .c (.int .u64 (1)))], none, []⟩,
    ⟨some 37, .call 3 (.c (.fn 12 [])) [.c (.int .i64 (9)), .c (.int .i64 (12))], none, []⟩,
    ⟨some 38, .build [.int .i64 0, .nsl 16, .int .u64 0] [(1, 1, .t 37)], none, []⟩,
    ⟨some 39, .call 3 (.c (.fn 9 [])) [.t 36, .t 38, .c (.int .u64 (3))], none, []⟩,
    ⟨some 34, .mov (.t 39), none, []⟩,
    ⟨some 40, .ext (.t 34) 0, none, []⟩,
    ⟨some 41, .ext (.t 34) 1, none, []⟩,
    ⟨some 8, .alloc [.int .i64 0, .nsl 16, .int .u64 0], none, []⟩,
    ⟨none, .store 3 (.t 8) (.t 40), none, []⟩,
    ⟨some 9, .mov (.t 41), none, []⟩] [1, 2, 3, 4, 5, 7, 8, 9])
   (.seq (.rgn false [⟨some 43, .call 3 (.c (.fn 12 [])) [.c (.int .i64 (1)), .c (.int .i64 (5))], none, []⟩,
    ⟨some 44, .build [.int .i64 0, .nsl 16, .int .u64 0] [(1, 1, .t 43), (2, 1, .c (.int .u64 (1)))], none, []⟩,
    ⟨some 45, .call 3 (.c (.fn 12 [])) [.c (.int .i64 (9)), .c (.int .i64 (12))], none, []⟩,
    ⟨some 46, .build [.int .i64 0, .nsl 16, .int .u64 0] [(1, 1, .t 45)], none, []⟩,
    ⟨some 47, .call 3 (.c (.fn 9 [])) [.t 44, .t 46, .c (.int .u64 (2))], none, []⟩,
    ⟨some 42, .mov (.t 47), none, []⟩,
    ⟨some 48, .ext (.t 42) 0, none, []⟩,
    ⟨some 49, .ext (.t 42) 1, none, []⟩,
    ⟨some 10, .alloc [.int .i64 0, .nsl 16, .int .u64 0], none, []⟩,
    ⟨none, .store 3 (.t 10) (.t 48), none, []⟩,
    ⟨some 11, .mov (.t 49), none, []⟩] [1, 2, 3, 4, 5, 7, 8, 9, 11])
   (.seq (.rgn false [⟨some 51, .call 3 (.c (.fn 12 [])) [.c (.int .i64 (1)), .c (.int .i64 (2))], none, []⟩,
    ⟨some 52, .build [.int .i64 0, .nsl 16, .int .u64 0] [(1, 1, .t 51)], none, []⟩,
    ⟨some 53, .call 3 (.c (.fn 12 [])) [.c (.int .i64 (9)), .c (.int .i64 (9))], none, []⟩,
    ⟨some 54, .build [.int .i64 0, .nsl 16, .int .u64 0] [(1, 1, .t 53)], none, []⟩,
    ⟨some 55, .call 3 (.c (.fn 12 [])) [.c (.int .i64 (3)), .c (.int .i64 (4))], none, []⟩,
    ⟨some 56, .build [.int .i64 0, .nsl 16, .int .u64 0] [(1, 1, .t 55)], none, []⟩,
    ⟨some 57, .bsl 3 [.int .i64 0, .nsl 16, .int .u64 0] 3 [(0, .t 52), (1, .t 54), (2, .t 56)], none, []⟩,
    ⟨some 58, .call 0 (.c (.fn 13 [])) [.t 57, .c (.int .u64 (99))], none, []⟩,
    ⟨some 50, .mov (.t 58), none, []⟩,
    ⟨some 59, .ext (.t 50) 0, none, []⟩,
    ⟨some 60, .ext (.t 50) 1, none, []⟩,
    ⟨some 61, .ext (.t 50) 2, none, []⟩,
    ⟨some 62, .ext (.t 50) 3, none, []⟩,
    ⟨some 12, .mov (.t 59), none, []⟩,
    ⟨some 13, .mov (.t 60), none, []⟩,
    ⟨some 14, .mov (.t 61), none, []⟩,
    ⟨some 15, .mov (.t 62), none, []⟩] [1, 2, 3, 4, 5, 7, 8, 9, 11, 12, 13, 14, 15])
   (.seq (.rgn false [⟨some 63, .mov (.t 2), none, []⟩,
    ⟨some 64, .mov (.t 63), none, []⟩,
    ⟨some 65, .mov (.t 1), some (64, true), []⟩,
    ⟨some 66, .call 3 (.c (.fn 12 [])) [.c (.int .i64 (1)), .c (.int .i64 (9))], some (64, true), []⟩,
    ⟨some 67, .call 0 (.c (.fn 11 [])) [.t 65, .t 66], some (64, true), []⟩,
    ⟨some 68, .pick (.t 64) (.t 67) (.c (.bool false)), none, []⟩,
    ⟨some 69, .mov (.t 68), none, []⟩,
    ⟨some 70, .mov (.t 5), some (69, true), []⟩,
    ⟨some 71, .pick (.t 69) (.t 70) (.c (.bool false)), none, []⟩,
    ⟨some 72, .mov (.t 71), none, []⟩,
    ⟨some 73, .mov (.t 4), some (72, true), []⟩,
    ⟨some 74, .bin .eql 0 (.t 73) (.c (.int .u64 (2))), some (72, true), []⟩,
    ⟨some 75, .pick (.t 72) (.t 74) (.c (.bool false)), none, []⟩,
    ⟨some 76, .mov (.t 75), none, []⟩,
    ⟨some 77, .mov (.t 3), some (76, true), []⟩,
    ⟨some 78, .call 3 (.c (.fn 12 [])) [.c (.int .i64 (1)), .c (.int .i64 (12))], some (76, true), []⟩,
    ⟨some 79, .call 0 (.c (.fn 11 [])) [.t 77, .t 78], some (76, true), []⟩,
    ⟨some 80, .pick (.t 76) (.t 79) (.c (.bool false)), none, []⟩,
    ⟨some 81, .mov (.t 80), none, []⟩,
    ⟨some 82, .mov (.t 7), some (81, true), []⟩,
    ⟨some 83, .un .not (.t 82), some (81, true), []⟩,
    ⟨some 84, .pick (.t 81) (.t 83) (.c (.bool false)), none, []⟩,
    ⟨some 85, .mov (.t 84), none, []⟩,
    ⟨some 86, .mov (.t 9), some (85, true), []⟩,
    ⟨some 87, .pick (.t 85) (.t 86) (.c (.bool false)), none, []⟩,
    ⟨some 88, .mov (.t 87), none, []⟩,
    ⟨some 89, .fadr 2 (.t 8), some (88, true), []⟩,
    ⟨some 90, .load false 1 (.t 89), some (88, true), []⟩,
    ⟨some 91, .bin .eql 0 (.t 90) (.c (.int .u64 (3))), some (88, true), []⟩,
    ⟨some 92, .pick (.t 88) (.t 91) (.c (.bool false)), none, []⟩,
    ⟨some 93, .mov (.t 92), none, []⟩,
    ⟨some 94, .mov (.t 11), some (93, true), []⟩,
    ⟨some 95, .un .not (.t 94), some (93, true), []⟩,
    ⟨some 96, .pick (.t 93) (.t 95) (.c (.bool false)), none, []⟩,
    ⟨some 97, .mov (.t 96), none, []⟩,
    ⟨some 98, .mov (.t 12), some (97, true), []⟩,
    ⟨some 99, .bin .eql 0 (.t 98) (.c (.int .i64 (0))), some (97, true), []⟩,
    ⟨some 100, .pick (.t 97) (.t 99) (.c (.bool false)), none, []⟩,
    ⟨some 101, .mov (.t 100), none, []⟩,
    ⟨some 102, .mov (.t 13), some (101, true), []⟩,
    ⟨some 103, .bin .eql 0 (.t 102) (.c (.int .i64 (2))), some (101, true), []⟩,
    ⟨some 104, .pick (.t 101) (.t 103) (.c (.bool false)), none, []⟩,
    ⟨some 105, .mov (.t 104), none, []⟩,
    ⟨some 106, .mov (.t 14), some (105, true), []⟩,
    ⟨some 107, .pick (.t 105) (.t 106) (.c (.bool false)), none, []⟩,
    ⟨some 108, .mov (.t 107), none, []⟩,
    ⟨some 109, .mov (.t 15), some (108, true), []⟩,
    ⟨some 110, .pick (.t 108) (.t 109) (.c (.bool false)), none, []⟩,
    ⟨some 0, .mov (.t 110), none, []⟩] [0])
   (.ret)))))))), none⟩
/-- arbour/arbourref06.Few -/
def F5 : IFn := ⟨1, [.t 2],
   .seq (.rgn false [⟨some 2, .mov (.c (.bool false)), none, []⟩] [0])
   (.seq (.rgn false [⟨some 3, .mov (.t 0), none, []⟩,
    ⟨some 4, .len false (.t 3), none, []⟩,
    ⟨some 5, .bin .leq 0 (.t 4) (.c (.int .i64 (20))), none, []⟩,
    ⟨some 6, .mov (.t 5), none, []⟩,
    ⟨some 7, .mov (.t 0), some (6, true), []⟩,
    ⟨some 8, .call 0 (.c (.fn 14 [])) [.t 7], some (6, true), []⟩,
    ⟨some 9, .pick (.t 6) (.t 8) (.c (.bool false)), none, []⟩,
    ⟨some 2, .mov (.t 9), none, []⟩] [2])
   (.ret)), none⟩
/-- arbour/arbourref12.Filter -/
def F6 : IFn := ⟨2, [.t 4],
   .seq (.rgn false [⟨some 3, .box (.t 1), none, []⟩,
    ⟨some 4, .mov (.c (.int .u64 (0))), none, []⟩] [0, 3])
   (.seq (.rgn false [⟨some 5, .mov (.c (.int .u64 (18446744073709551615))), none, []⟩] [0, 3, 5])
   (.seq (.seq (.rgn false [⟨some 6, .mov (.c (.int .i64 (0))), none, []⟩] [0, 3, 5, 6])
   (.block 0 (.loop [0, 3, 5, 6] (.seq (.seq (.rgn false [⟨some 7, .mov (.t 6), none, []⟩,
    ⟨some 8, .mov (.t 0), none, []⟩,
    ⟨some 9, .len false (.t 8), none, []⟩,
    ⟨some 10, .bin .lss 0 (.t 7) (.t 9), none, []⟩] [0, 3, 5, 6, 10])
   (.cond (.t 10) (.skip)
   (.exit 0)))
   (.seq (.block 1 (.rgn true [⟨some 13, .mov (.t 5), none, []⟩,
    ⟨some 14, .mov (.t 0), none, []⟩,
    ⟨some 15, .mov (.t 6), none, []⟩,
    ⟨some 16, .isl 16 (.t 14) (.t 15), none, [1, 2]⟩,
    ⟨some 17, .load true 16 (.t 16), none, [1, 2, 3]⟩,
    ⟨some 18, .load true 12 (.t 3), none, []⟩,
    ⟨some 19, .call 0 (.c (.fn 15 [])) [.t 17, .t 18], none, [1, 2, 3, 4, 5]⟩,
    ⟨some 20, .mn (.t 13) [.t 19], none, [0, 1, 2, 3, 4, 5, 6]⟩,
    ⟨some 5, .mov (.t 20), none, [0, 1, 2, 3, 4, 5, 6, 7]⟩] [0, 3, 5, 6]))
   (.rgn false [⟨some 11, .mov (.t 6), none, []⟩,
    ⟨some 12, .bin .add 0 (.t 11) (.c (.int .i64 (1))), none, []⟩,
    ⟨some 6, .mov (.t 12), none, []⟩] [0, 3, 5, 6]))))))
   (.seq (.rgn false [⟨some 21, .mov (.t 5), none, []⟩,
    ⟨some 4, .mov (.t 21), none, []⟩] [4])
   (.ret)))), none⟩
/-- arbour/merge.Hull -/
def F7 : IFn := ⟨2, [.t 4, .t 5, .t 6],
   .seq (.rgn false [⟨some 4, .nil0 16, none, []⟩,
    ⟨some 5, .mov (.c (.int .u64 (0))), none, []⟩,
    ⟨some 6, .mov (.c (.bool false)), none, []⟩] [0, 1])
   (.seq (.rgn false [⟨some 13, .mov (.t 0), none, []⟩,
    ⟨some 14, .mov (.t 1), none, []⟩,
    ⟨some 15, .call 0 (.c (.fn 16 [])) [.t 13, .t 14], none, []⟩,
    ⟨some 12, .mov (.t 15), none, []⟩,
    ⟨some 16, .ext (.t 12) 0, none, []⟩,
    ⟨some 17, .ext (.t 12) 1, none, []⟩,
    ⟨some 7, .mov (.t 16), none, []⟩,
    ⟨some 6, .mov (.t 17), none, []⟩] [0, 1, 6, 7])
   (.seq (.seq (.rgn false [⟨some 18, .mov (.t 6), none, []⟩,
    ⟨some 19, .un .not (.t 18), none, []⟩] [0, 1, 7, 19])
   (.cond (.t 19) (.seq (.rgn false [⟨some 4, .nil0 16, none, []⟩,
    ⟨some 5, .mov (.c (.int .u64 (0))), none, []⟩,
    ⟨some 6, .mov (.c (.bool false)), none, []⟩] [4, 5, 6])
   (.ret))
   (.skip)))
   (.seq (.rgn true [⟨some 20, .mov (.t 0), none, []⟩,
    ⟨some 21, .mov (.t 7), none, []⟩,
    ⟨some 22, .isl 16 (.t 20) (.c (.int .i64 (0))), none, [0]⟩,
    ⟨some 23, .iarr 4 4 (.t 22) (.t 21), none, [0, 1, 2]⟩,
    ⟨some 24, .load true 4 (.t 23), none, [0, 1, 2, 3]⟩,
    ⟨some 25, .mov (.t 1), none, []⟩,
    ⟨some 26, .mov (.t 7), none, []⟩,
    ⟨some 27, .isl 16 (.t 25) (.c (.int .i64 (0))), none, [5]⟩,
    ⟨some 28, .iarr 4 4 (.t 27) (.t 26), none, [5, 6, 7]⟩,
    ⟨some 29, .load true 4 (.t 28), none, [5, 6, 7, 8]⟩,
    ⟨some 8, .alloc [.bool false, .nsl 2, .bool false, .nsl 1], none, []⟩,
    ⟨some 9, .alloc [.bool false, .nsl 2, .bool false, .nsl 1], none, []⟩,
    ⟨none, .store 4 (.t 8) (.t 24), none, [0, 1, 2, 3, 4, 10, 11]⟩,
    ⟨none, .store 4 (.t 9) (.t 29), none, [0, 1, 2, 3, 4, 5, 6, 7, 8, 9, 10, 11, 12]⟩] [0, 7, 8, 9])
   (.seq (.seq (.rgn false [⟨some 30, .fadr 1 (.t 8), none, []⟩,
    ⟨some 31, .load false 1 (.t 30), none, []⟩,
    ⟨some 32, .len false (.t 31), none, []⟩,
    ⟨some 33, .bin .neq 0 (.t 32) (.c (.int .i64 (1))), none, []⟩,
    ⟨some 34, .mov (.t 33), none, []⟩,
    ⟨some 35, .fadr 1 (.t 9), some (34, false), []⟩,
    ⟨some 36, .load false 1 (.t 35), some (34, false), []⟩,
    ⟨some 37, .len false (.t 36), some (34, false), []⟩,
    ⟨some 38, .bin .neq 0 (.t 37) (.c (.int .i64 (1))), some (34, false), []⟩,
    ⟨some 39, .pick (.t 34) (.c (.bool true)) (.t 38), none, []⟩] [0, 7, 8, 9, 39])
   (.cond (.t 39) (.seq (.rgn false [⟨some 4, .nil0 16, none, []⟩,
    ⟨some 5, .mov (.c (.int .u64 (0))), none, []⟩,
    ⟨some 6, .mov (.c (.bool false)), none, []⟩] [4, 5, 6])
   (.ret))
   (.skip)))
   (.seq (.rgn true [⟨some 40, .fadr 1 (.t 8), none, []⟩,
    ⟨some 41, .load false 1 (.t 40), none, [0]⟩,
    ⟨some 42, .isl 2 (.t 41) (.c (.int .i64 (0))), none, [0, 1]⟩,
    ⟨some 43, .load true 2 (.t 42), none, [0, 1, 2]⟩,
    ⟨some 44, .fadr 1 (.t 9), none, []⟩,
    ⟨some 45, .load false 1 (.t 44), none, [4]⟩,
    ⟨some 46, .isl 2 (.t 45) (.c (.int .i64 (0))), none, [4, 5]⟩,
    ⟨some 47, .load true 2 (.t 46), none, [4, 5, 6]⟩,
    ⟨some 10, .alloc [.int .i64 0, .int .i64 0], none, []⟩,
    ⟨some 11, .alloc [.int .i64 0, .int .i64 0], none, []⟩,
    ⟨none, .store 2 (.t 10) (.t 43), none, [0, 1, 2, 3, 8, 9]⟩,
    ⟨none, .store 2 (.t 11) (.t 47), none, [0, 1, 2, 3, 4, 5, 6, 7, 8, 9, 10]⟩] [0, 7, 8, 9, 10, 11])
   (.seq (.seq (.rgn false [⟨some 48, .fadr 1 (.t 8), none, []⟩,
    ⟨some 49, .load false 1 (.t 48), none, []⟩,
    ⟨some 50, .fadr 1 (.t 9), none, []⟩,
    ⟨none, .store 1 (.t 50) (.t 49), none, []⟩] [0, 7, 8, 9, 10, 11])
   (.seq (.rgn false [⟨some 51, .load true 4 (.t 8), none, []⟩,
    ⟨some 52, .load true 4 (.t 9), none, []⟩,
    ⟨some 53, .call 0 (.c (.fn 17 [])) [.t 51, .t 52], none, []⟩,
    ⟨some 54, .un .not (.t 53), none, []⟩] [0, 7, 8, 10, 11, 54])
   (.cond (.t 54) (.seq (.rgn false [⟨some 4, .nil0 16, none, []⟩,
    ⟨some 5, .mov (.c (.int .u64 (0))), none, []⟩,
    ⟨some 6, .mov (.c (.bool false)), none, []⟩] [4, 5, 6])
   (.ret))
   (.skip))))
   (.seq (.seq (.rgn false [⟨some 55, .fadr 0 (.t 11), none, []⟩,
    ⟨some 56, .load false 1 (.t 55), none, []⟩,
    ⟨some 57, .fadr 0 (.t 10), none, []⟩,
    ⟨some 58, .load false 1 (.t 57), none, []⟩,
    ⟨some 59, .bin .lss 0 (.t 56) (.t 58), none, []⟩] [0, 7, 8, 10, 11, 59])
   (.cond (.t 59) (.rgn false [⟨some 60, .load true 2 (.t 11), none, []⟩,
    ⟨some 61, .load true 2 (.t 10), none, []⟩,
    ⟨none, .store 2 (.t 10) (.t 60), none, []⟩,
    ⟨none, .store 2 (.t 11) (.t 61), none, []⟩] [0, 7, 8, 10, 11])
   (.skip)))
   (.seq (.seq (.rgn false [⟨some 63, .load true 2 (.t 10), none, []⟩,
    ⟨some 64, .load true 2 (.t 11), none, []⟩,
    ⟨some 65, .call 0 (.c (.fn 18 [])) [.t 63, .t 64], none, []⟩,
    ⟨some 62, .mov (.t 65), none, []⟩,
    ⟨some 66, .ext (.t 62) 0, none, []⟩,
    ⟨some 67, .ext (.t 62) 1, none, []⟩,
    ⟨some 5, .mov (.t 66), none, []⟩,
    ⟨some 6, .mov (.t 67), none, []⟩] [0, 5, 6, 7, 8, 10, 11])
   (.seq (.rgn false [⟨some 68, .mov (.t 6), none, []⟩,
    ⟨some 69, .un .not (.t 68), none, []⟩,
    ⟨some 70, .mov (.t 69), none, []⟩,
    ⟨some 71, .fadr 1 (.t 10), some (70, false), []⟩,
    ⟨some 72, .load false 1 (.t 71), some (70, false), []⟩,
    ⟨some 73, .bin .add 0 (.t 72) (.c (.int .i64 (1))), some (70, false), []⟩,
    ⟨some 74, .fadr 0 (.t 11), some (70, false), []⟩,
    ⟨some 75, .load false 1 (.t 74), some (70, false), []⟩,
    ⟨some 76, .bin .eql 0 (.t 73) (.t 75), some (70, false), []⟩,
    ⟨some 77, .pick (.t 70) (.c (.bool true)) (.t 76), none, []⟩] [0, 5, 7, 8, 10, 11, 77])
   (.cond (.t 77) (.seq (.rgn false [⟨some 4, .nil0 16, none, []⟩,
    ⟨some 5, .mov (.c (.int .u64 (0))), none, []⟩,
    ⟨some 6, .mov (.c (.bool false)), none, []⟩] [4, 5, 6])
   (.ret))
   (.skip))))
   (.seq (.rgn false [⟨some 78, .fadr 0 (.t 10), none, []⟩,
    ⟨some 79, .load false 1 (.t 78), none, []⟩,
    ⟨some 80, .fadr 1 (.t 11), none, []⟩,
    ⟨some 81, .load false 1 (.t 80), none, []⟩,
    ⟨some 82, .build [.int .i64 0, .int .i64 0] [(0, 1, .t 79), (1, 1, .t 81)], none, []⟩,
    ⟨some 83, .bsl 2 [.int .i64 0, .int .i64 0] 1 [(0, .t 82)], none, []⟩,
    ⟨some 84, .fadr 1 (.t 8), none, []⟩,
    ⟨none, .store 1 (.t 84) (.t 83), none, []⟩] [0, 5, 7, 8])
   (.seq (.rgn true [⟨some 85, .mov (.t 0), none, []⟩,
    ⟨some 86, .isl 16 (.t 85) (.c (.int .i64 (0))), none, [0]⟩,
    ⟨some 87, .load true 16 (.t 86), none, [0, 1]⟩,
    ⟨some 88, .mov (.t 7), none, []⟩,
    ⟨some 89, .load true 4 (.t 8), none, []⟩,
    ⟨some 90, .call 3 (.c (.fn 19 [])) [.t 87, .t 88, .t 89], none, [0, 1, 2, 3, 4]⟩,
    ⟨some 91, .bsl 16 [.bool false, .nsl 2, .bool false, .nsl 1, .bool false, .nsl 2, .bool false, .nsl 1, .bool false, .nsl 2, .bool false, .nsl 1, .bool false, .nsl 2, .bool false, .nsl 1] 1 [(0, .t 90)], none, [0, 1, 2, 3, 4, 5]⟩,
    ⟨some 92, .mov (.t 5), none, []⟩,
    ⟨some 4, .mov (.t 91), none, [0, 1, 2, 3, 4, 5, 6]⟩,
    ⟨some 5, .mov (.t 92), none, [0, 1, 2, 3, 4, 5, 6, 7, 8]⟩,
    ⟨some 6, .mov (.c (.bool true)), none, [0, 1, 2, 3, 4, 5, 6, 7, 8, 9]⟩] [4, 5, 6])
   (.ret))))))))))), none⟩
/-- arbour/arbourref06.Has -/
def F8 : IFn := ⟨2, [.t 4],
   .seq (.rgn false [⟨some 3, .box (.t 1), none, []⟩,
    ⟨some 4, .mov (.c (.bool false)), none, []⟩] [0, 3])
   (.seq (.seq (.rgn false [⟨some 5, .mov (.c (.int .i64 (0))), none, []⟩] [0, 3, 5])
   (.block 0 (.loop [0, 3, 5] (.seq (.seq (.rgn false [⟨some 6, .mov (.t 5), none, []⟩,
    ⟨some 7, .mov (.t 0), none, []⟩,
    ⟨some 8, .len false (.t 7), none, []⟩,
    ⟨some 9, .bin .lss 0 (.t 6) (.t 8), none, []⟩] [0, 3, 5, 9])
   (.cond (.t 9) (.skip)
   (.exit 0)))
   (.seq (.block 1 (.seq (.rgn true [⟨some 12, .mov (.t 0), none, []⟩,
    ⟨some 13, .mov (.t 5), none, []⟩,
    ⟨some 14, .isl 16 (.t 12) (.t 13), none, [0, 1]⟩,
    ⟨some 15, .load true 16 (.t 14), none, [0, 1, 2]⟩,
    ⟨some 16, .load true 12 (.t 3), none, []⟩,
    ⟨some 17, .call 0 (.c (.fn 20 [])) [.t 15, .t 16], none, [0, 1, 2, 3, 4]⟩] [0, 3, 5, 17])
   (.cond (.t 17) (.seq (.rgn false [⟨some 4, .mov (.c (.bool true)), none, []⟩] [4])
   (.ret))
   (.skip))))
   (.rgn false [⟨some 10, .mov (.t 5), none, []⟩,
    ⟨some 11, .bin .add 0 (.t 10) (.c (.int .i64 (1))), none, []⟩,
    ⟨some 5, .mov (.t 11), none, []⟩] [0, 3, 5]))))))
   (.seq (.rgn false [⟨some 4, .mov (.c (.bool false)), none, []⟩] [4])
   (.ret))), none⟩
/-- arbour/merge.Entries -/
def F9 : IFn := ⟨3, [.cell 6 true 3, .t 7],
   .seq (.rgn false [⟨some 3, .box (.t 0), none, []⟩,
    ⟨some 4, .box (.t 1), none, []⟩,
    ⟨some 6, .alloc [.int .i64 0, .nsl 16, .int .u64 0], none, []⟩,
    ⟨some 7, .mov (.c (.bool false)), none, []⟩] [2, 3, 4, 6])
   (.seq (.seq (.rgn false [⟨some 13, .bsl 1 [.junk] 2 [(0, .c (.fn 21 [])), (1, .c (.fn 7 []))], none, []⟩,
    ⟨some 14, .len false (.t 13), none, []⟩,
    ⟨some 15, .mov (.c (.int .i64 (0))), none, []⟩] [2, 3, 4, 6, 13, 14, 15])
   (.block 0 (.loop [2, 3, 4, 6, 13, 14, 15] (.seq (.rgn false [⟨some 16, .bin .lss 0 (.t 15) (.t 14), none, []⟩] [2, 3, 4, 6, 13, 14, 15, 16])
   (.seq (.cond (.t 16) (.skip)
   (.exit 0))
   (.seq (.block 1 (.seq (.rgn false [⟨some 17, .isl 1 (.t 13) (.t 15), none, []⟩,
    ⟨some 18, .load false 1 (.t 17), none, []⟩,
    ⟨some 9, .mov (.t 18), none, []⟩] [2, 3, 4, 6, 9, 13, 14, 15])
   (.seq (.rgn false [⟨some 20, .mov (.t 9), none, []⟩,
    ⟨some 21, .fadr 1 (.t 3), none, []⟩,
    ⟨some 22, .load false 1 (.t 21), none, []⟩,
    ⟨some 23, .fadr 1 (.t 4), none, []⟩,
    ⟨some 24, .load false 1 (.t 23), none, []⟩,
    ⟨some 25, .call 3 (.t 20) [.t 22, .t 24], none, []⟩,
    ⟨some 19, .mov (.t 25), none, []⟩,
    ⟨some 26, .ext (.t 19) 0, none, []⟩,
    ⟨some 27, .ext (.t 19) 1, none, []⟩,
    ⟨some 28, .ext (.t 19) 2, none, []⟩,
    ⟨some 10, .mov (.t 26), none, []⟩,
    ⟨some 11, .mov (.t 27), none, []⟩,
    ⟨some 12, .mov (.t 28), none, []⟩] [2, 3, 4, 6, 9, 12, 13, 14, 15])
   (.seq (.rgn false [⟨some 29, .mov (.t 12), none, []⟩] [2, 3, 4, 6, 9, 13, 14, 15, 29])
   (.cond (.t 29) (.seq (.rgn false [⟨some 30, .mov (.t 9), none, []⟩,
    ⟨some 31, .mov (.t 2), none, []⟩,
    ⟨some 32, .call 3 (.c (.fn 22 [])) [.t 30, .t 3, .t 4, .t 31], none, []⟩,
    ⟨some 33, .ext (.t 32) 0, none, []⟩,
    ⟨some 34, .ext (.t 32) 1, none, []⟩,
    ⟨none, .store 3 (.t 6) (.t 33), none, []⟩,
    ⟨some 7, .mov (.t 34), none, []⟩] [6, 7])
   (.ret))
   (.skip))))))
   (.rgn false [⟨some 35, .bin .add 0 (.t 15) (.c (.int .i64 (1))), none, []⟩,
    ⟨some 15, .mov (.t 35), none, []⟩] [2, 3, 4, 6, 13, 14, 15])))))))
   (.seq (.rgn false [⟨some 36, .build [.int .i64 0, .nsl 16, .int .u64 0] [], none, []⟩,
    ⟨none, .store 3 (.t 6) (.t 36), none, []⟩,
    ⟨some 7, .mov (.c (.bool false)), none, []⟩] [6, 7])
   (.ret))), none⟩
/-- arbour/merge.Perfect -/
def F10 : IFn := ⟨2, [.t 4, .t 5],
   .seq (.rgn false [⟨some 4, .nil0 16, none, []⟩,
    ⟨some 5, .mov (.c (.bool false)), none, []⟩] [0, 1])
   (.seq (.rgn false [⟨some 10, .mov (.t 0), none, []⟩,
    ⟨some 11, .mov (.t 1), none, []⟩,
    ⟨some 12, .call 0 (.c (.fn 16 [])) [.t 10, .t 11], none, []⟩,
    ⟨some 9, .mov (.t 12), none, []⟩,
    ⟨some 13, .ext (.t 9) 0, none, []⟩,
    ⟨some 14, .ext (.t 9) 1, none, []⟩,
    ⟨some 6, .mov (.t 13), none, []⟩,
    ⟨some 7, .mov (.t 14), none, []⟩] [0, 1, 6, 7])
   (.seq (.seq (.rgn false [⟨some 15, .mov (.t 7), none, []⟩,
    ⟨some 16, .un .not (.t 15), none, []⟩] [0, 1, 6, 16])
   (.cond (.t 16) (.seq (.rgn false [⟨some 4, .nil0 16, none, []⟩,
    ⟨some 5, .mov (.c (.bool false)), none, []⟩] [4, 5])
   (.ret))
   (.skip)))
   (.seq (.rgn true [⟨some 17, .mov (.t 0), none, []⟩,
    ⟨some 18, .mov (.t 6), none, []⟩,
    ⟨some 19, .isl 16 (.t 17) (.c (.int .i64 (0))), none, [0]⟩,
    ⟨some 20, .iarr 4 4 (.t 19) (.t 18), none, [0, 1, 2]⟩,
    ⟨some 21, .load true 4 (.t 20), none, [0, 1, 2, 3]⟩,
    ⟨some 22, .mov (.t 1), none, []⟩,
    ⟨some 23, .mov (.t 6), none, []⟩,
    ⟨some 24, .isl 16 (.t 22) (.c (.int .i64 (0))), none, [5]⟩,
    ⟨some 25, .iarr 4 4 (.t 24) (.t 23), none, [5, 6, 7]⟩,
    ⟨some 26, .load true 4 (.t 25), none, [5, 6, 7, 8]⟩,
    ⟨some 27, .call 3 (.c (.fn 23 [])) [.t 21, .t 26], none, [0, 1, 2, 3, 4, 5, 6, 7, 8, 9]⟩,
    ⟨some 8, .alloc [.bool false, .nsl 2, .bool false, .nsl 1], none, []⟩,
    ⟨none, .store 4 (.t 8) (.t 27), none, [0, 1, 2, 3, 4, 5, 6, 7, 8, 9, 10, 11]⟩] [0, 1, 6, 8])
   (.seq (.seq (.rgn true [⟨some 28, .load true 4 (.t 8), none, []⟩,
    ⟨some 29, .call 0 (.c (.fn 24 [])) [.t 28], none, [0]⟩,
    ⟨some 30, .un .not (.t 29), none, [0, 1]⟩,
    ⟨some 31, .mov (.t 30), none, [0, 1, 2]⟩,
    ⟨some 32, .fadr 1 (.t 8), some (31, false), [0, 1, 2, 3]⟩,
    ⟨some 33, .load false 1 (.t 32), some (31, false), [0, 1, 2, 3, 4]⟩,
    ⟨some 34, .len false (.t 33), some (31, false), [0, 1, 2, 3, 4, 5]⟩,
    ⟨some 35, .mov (.t 0), some (31, false), [0, 1, 2, 3]⟩,
    ⟨some 36, .mov (.t 6), some (31, false), [0, 1, 2, 3]⟩,
    ⟨some 37, .isl 16 (.t 35) (.c (.int .i64 (0))), some (31, false), [0, 1, 2, 3, 7]⟩,
    ⟨some 38, .iarr 4 4 (.t 37) (.t 36), some (31, false), [0, 1, 2, 3, 7, 8, 9]⟩,
    ⟨some 39, .fadr 1 (.t 38), some (31, false), [0, 1, 2, 3, 7, 8, 9, 10]⟩,
    ⟨some 40, .load false 1 (.t 39), some (31, false), [0, 1, 2, 3, 7, 8, 9, 10, 11]⟩,
    ⟨some 41, .len false (.t 40), some (31, false), [0, 1, 2, 3, 7, 8, 9, 10, 11, 12]⟩,
    ⟨some 42, .mov (.t 1), some (31, false), [0, 1, 2, 3]⟩,
    ⟨some 43, .mov (.t 6), some (31, false), [0, 1, 2, 3]⟩,
    ⟨some 44, .isl 16 (.t 42) (.c (.int .i64 (0))), some (31, false), [0, 1, 2, 3, 14]⟩,
    ⟨some 45, .iarr 4 4 (.t 44) (.t 43), some (31, false), [0, 1, 2, 3, 14, 15, 16]⟩,
    ⟨some 46, .fadr 1 (.t 45), some (31, false), [0, 1, 2, 3, 14, 15, 16, 17]⟩,
    ⟨some 47, .load false 1 (.t 46), some (31, false), [0, 1, 2, 3, 14, 15, 16, 17, 18]⟩,
    ⟨some 48, .len false (.t 47), some (31, false), [0, 1, 2, 3, 14, 15, 16, 17, 18, 19]⟩,
    ⟨some 49, .mx (.t 41) [.t 48], some (31, false), [0, 1, 2, 3, 7, 8, 9, 10, 11, 12, 13, 14, 15, 16, 17, 18, 19, 20]⟩,
    ⟨some 50, .bin .gtr 0 (.t 34) (.t 49), some (31, false), [0, 1, 2, 3, 4, 5, 6, 7, 8, 9, 10, 11, 12, 13, 14, 15, 16, 17, 18, 19, 20, 21]⟩,
    ⟨some 51, .pick (.t 31) (.c (.bool true)) (.t 50), none, [0, 1, 2, 3, 4, 5, 6, 7, 8, 9, 10, 11, 12, 13, 14, 15, 16, 17, 18, 19, 20, 21, 22]⟩] [0, 6, 8, 51])
   (.cond (.t 51) (.seq (.rgn false [⟨some 4, .nil0 16, none, []⟩,
    ⟨some 5, .mov (.c (.bool false)), none, []⟩] [4, 5])
   (.ret))
   (.skip)))
   (.seq (.rgn true [⟨some 52, .mov (.t 0), none, []⟩,
    ⟨some 53, .isl 16 (.t 52) (.c (.int .i64 (0))), none, [0]⟩,
    ⟨some 54, .load true 16 (.t 53), none, [0, 1]⟩,
    ⟨some 55, .mov (.t 6), none, []⟩,
    ⟨some 56, .load true 4 (.t 8), none, []⟩,
    ⟨some 57, .call 3 (.c (.fn 19 [])) [.t 54, .t 55, .t 56], none, [0, 1, 2, 3, 4]⟩,
    ⟨some 58, .bsl 16 [.bool false, .nsl 2, .bool false, .nsl 1, .bool false, .nsl 2, .bool false, .nsl 1, .bool false, .nsl 2, .bool false, .nsl 1, .bool false, .nsl 2, .bool false, .nsl 1] 1 [(0, .t 57)], none, [0, 1, 2, 3, 4, 5]⟩,
    ⟨some 4, .mov (.t 58), none, [0, 1, 2, 3, 4, 5, 6]⟩,
    ⟨some 5, .mov (.c (.bool true)), none, [0, 1, 2, 3, 4, 5, 6, 7]⟩] [4, 5])
   (.ret)))))), none⟩
/-- arbour/arbourref06.Same -/
def F11 : IFn := ⟨2, [.t 4],
   .seq (.rgn false [⟨some 4, .mov (.c (.bool false)), none, []⟩] [0, 1])
   (.seq (.seq (.rgn false [⟨some 6, .mov (.t 0), none, []⟩,
    ⟨some 7, .len false (.t 6), none, []⟩,
    ⟨some 8, .mov (.t 1), none, []⟩,
    ⟨some 9, .len false (.t 8), none, []⟩,
    ⟨some 10, .bin .neq 0 (.t 7) (.t 9), none, []⟩] [0, 1, 10])
   (.cond (.t 10) (.seq (.rgn false [⟨some 4, .mov (.c (.bool false)), none, []⟩] [4])
   (.ret))
   (.skip)))
   (.seq (.seq (.rgn false [⟨some 5, .mov (.c (.int .i64 (0))), none, []⟩] [0, 1, 5])
   (.block 0 (.loop [0, 1, 5] (.seq (.seq (.rgn false [⟨some 11, .mov (.t 5), none, []⟩,
    ⟨some 12, .mov (.t 0), none, []⟩,
    ⟨some 13, .len false (.t 12), none, []⟩,
    ⟨some 14, .bin .lss 0 (.t 11) (.t 13), none, []⟩] [0, 1, 5, 14])
   (.cond (.t 14) (.skip)
   (.exit 0)))
   (.seq (.block 1 (.seq (.rgn true [⟨some 17, .mov (.t 0), none, []⟩,
    ⟨some 18, .mov (.t 5), none, []⟩,
    ⟨some 19, .isl 16 (.t 17) (.t 18), none, [0, 1]⟩,
    ⟨some 20, .load true 16 (.t 19), none, [0, 1, 2]⟩,
    ⟨some 21, .mov (.t 1), none, []⟩,
    ⟨some 22, .mov (.t 5), none, []⟩,
    ⟨some 23, .isl 16 (.t 21) (.t 22), none, [4, 5]⟩,
    ⟨some 24, .load true 16 (.t 23), none, [4, 5, 6]⟩,
    ⟨some 25, .call 0 (.c (.fn 25 [])) [.t 20, .t 24], none, [0, 1, 2, 3, 4, 5, 6, 7]⟩,
    ⟨some 26, .un .not (.t 25), none, [0, 1, 2, 3, 4, 5, 6, 7, 8]⟩] [0, 1, 5, 26])
   (.cond (.t 26) (.seq (.rgn false [⟨some 4, .mov (.c (.bool false)), none, []⟩] [4])
   (.ret))
   (.skip))))
   (.rgn false [⟨some 15, .mov (.t 5), none, []⟩,
    ⟨some 16, .bin .add 0 (.t 15) (.c (.int .i64 (1))), none, []⟩,
    ⟨some 5, .mov (.t 16), none, []⟩] [0, 1, 5]))))))
   (.seq (.rgn false [⟨some 4, .mov (.c (.bool true)), none, []⟩] [4])
   (.ret)))), none⟩
/-- arbour/arbourlaw13.ints -/
def F12 : IFn := ⟨2, [.t 4],
   .seq (.rgn false [⟨some 4, .nil0 16, none, []⟩] [0, 1])
   (.seq (.rgn false [⟨some 5, .mov (.t 0), none, []⟩,
    ⟨some 6, .mov (.t 1), none, []⟩,
    ⟨some 7, .build [.int .i64 0, .int .i64 0] [(0, 1, .t 5), (1, 1, .t 6)], none, []⟩,
    ⟨some 8, .bsl 2 [.int .i64 0, .int .i64 0] 1 [(0, .t 7)], none, []⟩,
    ⟨some 9, .build [.bool false, .nsl 2, .bool false, .nsl 1] [(1, 1, .t 8)], none, []⟩,
    ⟨some 10, .call 3 (.c (.fn 26 [])) [.c (.int .i64 (0)), .t 9], none, []⟩,
    ⟨some 11, .bsl 16 [.bool false, .nsl 2, .bool false, .nsl 1, .bool false, .nsl 2, .bool false, .nsl 1, .bool false, .nsl 2, .bool false, .nsl 1, .bool false, .nsl 2, .bool false, .nsl 1] 1 [(0, .t 10)], none, []⟩,
    ⟨some 4, .mov (.t 11), none, []⟩] [4])
   (.ret)), none⟩
/-- arbour/merge.Best -/
def F13 : IFn := ⟨2, [.t 4, .t 5, .t 6, .t 7],
   .seq (.rgn false [⟨some 4, .mov (.c (.int .i64 (0))), none, []⟩,
    ⟨some 5, .mov (.c (.int .i64 (0))), none, []⟩,
    ⟨some 6, .mov (.c (.bool false)), none, []⟩,
    ⟨some 7, .mov (.c (.bool false)), none, []⟩] [0, 1])
   (.seq (.seq (.rgn false [⟨some 14, .bsl 1 [.junk] 2 [(0, .c (.fn 21 [])), (1, .c (.fn 7 []))], none, []⟩,
    ⟨some 15, .len false (.t 14), none, []⟩,
    ⟨some 16, .mov (.c (.int .i64 (0))), none, []⟩] [0, 1, 14, 15, 16])
   (.block 0 (.loop [0, 1, 14, 15, 16] (.seq (.rgn false [⟨some 17, .bin .lss 0 (.t 16) (.t 15), none, []⟩] [0, 1, 14, 15, 16, 17])
   (.seq (.cond (.t 17) (.skip)
   (.exit 0))
   (.seq (.block 1 (.seq (.rgn false [⟨some 18, .mov (.t 16), none, []⟩,
    ⟨some 19, .isl 1 (.t 14) (.t 16), none, []⟩,
    ⟨some 20, .load false 1 (.t 19), none, []⟩,
    ⟨some 8, .mov (.t 18), none, []⟩,
    ⟨some 9, .mov (.t 20), none, []⟩] [0, 1, 8, 9, 14, 15, 16])
   (.seq (.rgn false [⟨some 21, .mov (.t 0), none, []⟩,
    ⟨some 22, .len false (.t 21), none, []⟩,
    ⟨some 23, .mov (.c (.int .i64 (0))), none, []⟩] [0, 1, 8, 9, 14, 15, 16, 22, 23])
   (.block 2 (.loop [0, 1, 8, 9, 14, 15, 16, 22, 23] (.seq (.rgn false [⟨some 24, .bin .lss 0 (.t 23) (.t 22), none, []⟩] [0, 1, 8, 9, 14, 15, 16, 22, 23, 24])
   (.seq (.cond (.t 24) (.skip)
   (.exit 2))
   (.seq (.block 3 (.seq (.rgn false [⟨some 25, .mov (.t 23), none, []⟩,
    ⟨some 10, .mov (.t 25), none, []⟩] [0, 1, 8, 9, 10, 14, 15, 16, 22, 23])
   (.seq (.rgn false [⟨some 26, .mov (.t 10), none, []⟩,
    ⟨some 27, .bin .add 0 (.t 26) (.c (.int .i64 (1))), none, []⟩,
    ⟨some 11, .mov (.t 27), none, []⟩] [0, 1, 8, 9, 10, 11, 14, 15, 16, 22, 23])
   (.block 4 (.loop [0, 1, 8, 9, 10, 11, 14, 15, 16, 22, 23] (.seq (.seq (.rgn false [⟨some 28, .mov (.t 11), none, []⟩,
    ⟨some 29, .mov (.t 0), none, []⟩,
    ⟨some 30, .len false (.t 29), none, []⟩,
    ⟨some 31, .bin .lss 0 (.t 28) (.t 30), none, []⟩] [0, 1, 8, 9, 10, 11, 14, 15, 16, 22, 23, 31])
   (.cond (.t 31) (.skip)
   (.exit 4)))
   (.seq (.block 5 (.seq (.rgn true [⟨some 35, .mov (.t 9), none, []⟩,
    ⟨some 36, .mov (.t 0), none, []⟩,
    ⟨some 37, .mov (.t 10), none, []⟩,
    ⟨some 38, .isl 3 (.t 36) (.t 37), none, [1, 2]⟩,
    ⟨some 39, .mov (.t 0), none, []⟩,
    ⟨some 40, .mov (.t 11), none, []⟩,
    ⟨some 41, .isl 3 (.t 39) (.t 40), none, [4, 5]⟩,
    ⟨some 42, .mov (.t 1), none, []⟩,
    ⟨some 43, .call 3 (.c (.fn 22 [])) [.t 35, .t 38, .t 41, .t 42], none, [0, 1, 2, 3, 4, 5, 6, 7]⟩,
    ⟨some 34, .mov (.t 43), none, [0, 1, 2, 3, 4, 5, 6, 7, 8]⟩,
    ⟨some 44, .ext (.t 34) 0, none, [0, 1, 2, 3, 4, 5, 6, 7, 8, 9]⟩,
    ⟨some 45, .ext (.t 34) 1, none, [0, 1, 2, 3, 4, 5, 6, 7, 8, 9]⟩,
    ⟨some 12, .alloc [.int .i64 0, .nsl 16, .int .u64 0], none, []⟩,
    ⟨none, .store 3 (.t 12) (.t 44), none, [0, 1, 2, 3, 4, 5, 6, 7, 8, 9, 10, 12]⟩,
    ⟨some 13, .mov (.t 45), none, [0, 1, 2, 3, 4, 5, 6, 7, 8, 9, 10, 11, 12, 13]⟩] [0, 1, 8, 9, 10, 11, 13, 14, 15, 16, 22, 23])
   (.seq (.rgn false [⟨some 46, .mov (.t 13), none, []⟩] [0, 1, 8, 9, 10, 11, 14, 15, 16, 22, 23, 46])
   (.cond (.t 46) (.seq (.rgn false [⟨some 47, .mov (.t 10), none, []⟩,
    ⟨some 48, .mov (.t 11), none, []⟩,
    ⟨some 49, .mov (.t 8), none, []⟩,
    ⟨some 50, .bin .eql 0 (.t 49) (.c (.int .i64 (0))), none, []⟩,
    ⟨some 4, .mov (.t 47), none, []⟩,
    ⟨some 5, .mov (.t 48), none, []⟩,
    ⟨some 6, .mov (.t 50), none, []⟩,
    ⟨some 7, .mov (.c (.bool true)), none, []⟩] [4, 5, 6, 7])
   (.ret))
   (.skip)))))
   (.rgn false [⟨some 32, .mov (.t 11), none, []⟩,
    ⟨some 33, .bin .add 0 (.t 32) (.c (.int .i64 (1))), none, []⟩,
    ⟨some 11, .mov (.t 33), none, []⟩] [0, 1, 8, 9, 10, 11, 14, 15, 16, 22, 23]))))))))
   (.rgn false [⟨some 51, .bin .add 0 (.t 23) (.c (.int .i64 (1))), none, []⟩,
    ⟨some 23, .mov (.t 51), none, []⟩] [0, 1, 8, 9, 14, 15, 16, 22, 23])))))))))
   (.rgn false [⟨some 52, .bin .add 0 (.t 16) (.c (.int .i64 (1))), none, []⟩,
    ⟨some 16, .mov (.t 52), none, []⟩] [0, 1, 14, 15, 16])))))))
   (.seq (.rgn false [⟨some 4, .mov (.c (.int .i64 (0))), none, []⟩,
    ⟨some 5, .mov (.c (.int .i64 (0))), none, []⟩,
    ⟨some 6, .mov (.c (.bool false)), none, []⟩,
    ⟨some 7, .mov (.c (.bool false)), none, []⟩] [4, 5, 6, 7])
   (.ret))), none⟩
/-- arbour/arbourref04.Few -/
def F14 : IFn := ⟨1, [.t 2],
   .seq (.rgn false [⟨some 2, .mov (.c (.bool false)), none, []⟩] [0])
   (.seq (.seq (.rgn false [⟨some 3, .mov (.c (.int .i64 (0))), none, []⟩] [0, 3])
   (.block 0 (.loop [0, 3] (.seq (.seq (.rgn false [⟨some 4, .mov (.t 3), none, []⟩,
    ⟨some 5, .mov (.t 0), none, []⟩,
    ⟨some 6, .len false (.t 5), none, []⟩,
    ⟨some 7, .bin .lss 0 (.t 4) (.t 6), none, []⟩] [0, 3, 7])
   (.cond (.t 7) (.skip)
   (.exit 0)))
   (.seq (.block 1 (.seq (.rgn true [⟨some 10, .mov (.t 0), none, []⟩,
    ⟨some 11, .mov (.t 3), none, []⟩,
    ⟨some 12, .isl 16 (.t 10) (.t 11), none, [0, 1]⟩,
    ⟨some 13, .iarr 4 4 (.t 12) (.c (.int .i64 (0))), none, [0, 1, 2]⟩,
    ⟨some 14, .load true 4 (.t 13), none, [0, 1, 2, 3]⟩,
    ⟨some 15, .mov (.t 0), none, []⟩,
    ⟨some 16, .mov (.t 3), none, []⟩,
    ⟨some 17, .isl 16 (.t 15) (.t 16), none, [5, 6]⟩,
    ⟨some 18, .iarr 4 4 (.t 17) (.c (.int .i64 (1))), none, [5, 6, 7]⟩,
    ⟨some 19, .load true 4 (.t 18), none, [5, 6, 7, 8]⟩,
    ⟨some 20, .mov (.t 0), none, []⟩,
    ⟨some 21, .mov (.t 3), none, []⟩,
    ⟨some 22, .isl 16 (.t 20) (.t 21), none, [10, 11]⟩,
    ⟨some 23, .iarr 4 4 (.t 22) (.c (.int .i64 (2))), none, [10, 11, 12]⟩,
    ⟨some 24, .load true 4 (.t 23), none, [10, 11, 12, 13]⟩,
    ⟨some 25, .mov (.t 0), none, []⟩,
    ⟨some 26, .mov (.t 3), none, []⟩,
    ⟨some 27, .isl 16 (.t 25) (.t 26), none, [15, 16]⟩,
    ⟨some 28, .iarr 4 4 (.t 27) (.c (.int .i64 (3))), none, [15, 16, 17]⟩,
    ⟨some 29, .load true 4 (.t 28), none, [15, 16, 17, 18]⟩,
    ⟨some 30, .bsl 4 [.bool false, .nsl 2, .bool false, .nsl 1] 4 [(0, .t 14), (1, .t 19), (2, .t 24), (3, .t 29)], none, [0, 1, 2, 3, 4, 5, 6, 7, 8, 9, 10, 11, 12, 13, 14, 15, 16, 17, 18, 19]⟩,
    ⟨some 31, .call 0 (.c (.fn 27 [])) [.t 30], none, [0, 1, 2, 3, 4, 5, 6, 7, 8, 9, 10, 11, 12, 13, 14, 15, 16, 17, 18, 19, 20]⟩,
    ⟨some 32, .un .not (.t 31), none, [0, 1, 2, 3, 4, 5, 6, 7, 8, 9, 10, 11, 12, 13, 14, 15, 16, 17, 18, 19, 20, 21]⟩] [0, 3, 32])
   (.cond (.t 32) (.seq (.rgn false [⟨some 2, .mov (.c (.bool false)), none, []⟩] [2])
   (.ret))
   (.skip))))
   (.rgn false [⟨some 8, .mov (.t 3), none, []⟩,
    ⟨some 9, .bin .add 0 (.t 8) (.c (.int .i64 (1))), none, []⟩,
    ⟨some 3, .mov (.t 9), none, []⟩] [0, 3]))))))
   (.seq (.rgn false [⟨some 2, .mov (.c (.bool true)), none, []⟩] [2])
   (.ret))), none⟩
/-- arbour/arbourref12.Box -/
def F15 : IFn := ⟨2, [.t 4],
   .seq (.rgn false [⟨some 2, .box (.t 0), none, []⟩,
    ⟨some 3, .box (.t 1), none, []⟩,
    ⟨some 4, .mov (.c (.int .u64 (0))), none, []⟩] [2, 3])
   (.seq (.rgn false [⟨some 5, .mov (.c (.int .u64 (0))), none, []⟩] [2, 3, 5])
   (.seq (.seq (.rgn false [⟨some 6, .mov (.c (.int .i64 (0))), none, []⟩] [2, 3, 5, 6])
   (.block 0 (.loop [2, 3, 5, 6] (.seq (.seq (.rgn false [⟨some 7, .mov (.t 6), none, []⟩,
    ⟨some 8, .bin .lss 0 (.t 7) (.c (.int .i64 (4))), none, []⟩] [2, 3, 5, 6, 8])
   (.cond (.t 8) (.skip)
   (.exit 0)))
   (.seq (.block 1 (.rgn true [⟨some 11, .mov (.t 5), none, []⟩,
    ⟨some 12, .mov (.t 6), none, []⟩,
    ⟨some 13, .iarr 4 4 (.t 2) (.t 12), none, [1]⟩,
    ⟨some 14, .load true 4 (.t 13), none, [1, 2]⟩,
    ⟨some 15, .mov (.t 6), none, []⟩,
    ⟨some 16, .iarr 4 3 (.t 3) (.t 15), none, [4]⟩,
    ⟨some 17, .load true 3 (.t 16), none, [4, 5]⟩,
    ⟨some 18, .call 0 (.c (.fn 29 [])) [.t 14, .t 17], none, [1, 2, 3, 4, 5, 6]⟩,
    ⟨some 19, .call 0 (.c (.fn 28 [])) [.t 11, .t 18], none, [0, 1, 2, 3, 4, 5, 6, 7]⟩,
    ⟨some 5, .mov (.t 19), none, [0, 1, 2, 3, 4, 5, 6, 7, 8]⟩] [2, 3, 5, 6]))
   (.rgn false [⟨some 9, .mov (.t 6), none, []⟩,
    ⟨some 10, .bin .add 0 (.t 9) (.c (.int .i64 (1))), none, []⟩,
    ⟨some 6, .mov (.t 10), none, []⟩] [2, 3, 5, 6]))))))
   (.seq (.rgn false [⟨some 20, .mov (.t 5), none, []⟩,
    ⟨some 4, .mov (.t 20), none, []⟩] [4])
   (.ret)))), none⟩
/-- arbour/merge.beside -/
def F16 : IFn := ⟨2, [.t 4, .t 5],
   .seq (.rgn false [⟨some 4, .mov (.c (.int .i64 (0))), none, []⟩,
    ⟨some 5, .mov (.c (.bool false)), none, []⟩] [0, 1])
   (.seq (.seq (.rgn false [⟨some 7, .mov (.t 0), none, []⟩,
    ⟨some 8, .len false (.t 7), none, []⟩,
    ⟨some 9, .bin .neq 0 (.t 8) (.c (.int .i64 (1))), none, []⟩,
    ⟨some 10, .mov (.t 9), none, []⟩,
    ⟨some 11, .mov (.t 1), some (10, false), []⟩,
    ⟨some 12, .len false (.t 11), some (10, false), []⟩,
    ⟨some 13, .bin .neq 0 (.t 12) (.c (.int .i64 (1))), some (10, false), []⟩,
    ⟨some 14, .pick (.t 10) (.c (.bool true)) (.t 13), none, []⟩,
    ⟨some 15, .mov (.t 14), none, []⟩,
    ⟨some 16, .mov (.t 0), some (15, false), []⟩,
    ⟨some 17, .call 0 (.c (.fn 30 [])) [.t 16], some (15, false), []⟩,
    ⟨some 18, .un .not (.t 17), some (15, false), []⟩,
    ⟨some 19, .pick (.t 15) (.c (.bool true)) (.t 18), none, []⟩,
    ⟨some 20, .mov (.t 19), none, []⟩,
    ⟨some 21, .mov (.t 1), some (20, false), []⟩,
    ⟨some 22, .call 0 (.c (.fn 30 [])) [.t 21], some (20, false), []⟩,
    ⟨some 23, .un .not (.t 22), some (20, false), []⟩,
    ⟨some 24, .pick (.t 20) (.c (.bool true)) (.t 23), none, []⟩] [0, 1, 24])
   (.cond (.t 24) (.seq (.rgn false [⟨some 4, .mov (.c (.int .i64 (0))), none, []⟩,
    ⟨some 5, .mov (.c (.bool false)), none, []⟩] [4, 5])
   (.ret))
   (.skip)))
   (.seq (.rgn true [⟨some 26, .mov (.t 0), none, []⟩,
    ⟨some 27, .isl 16 (.t 26) (.c (.int .i64 (0))), none, [0]⟩,
    ⟨some 28, .load true 16 (.t 27), none, [0, 1]⟩,
    ⟨some 29, .mov (.t 1), none, []⟩,
    ⟨some 30, .isl 16 (.t 29) (.c (.int .i64 (0))), none, [3]⟩,
    ⟨some 31, .load true 16 (.t 30), none, [3, 4]⟩,
    ⟨some 32, .call 0 (.c (.fn 31 [])) [.t 28, .t 31], none, [0, 1, 2, 3, 4, 5]⟩,
    ⟨some 25, .mov (.t 32), none, [0, 1, 2, 3, 4, 5, 6]⟩,
    ⟨some 33, .ext (.t 25) 0, none, [0, 1, 2, 3, 4, 5, 6, 7]⟩,
    ⟨some 34, .ext (.t 25) 1, none, [0, 1, 2, 3, 4, 5, 6, 7]⟩,
    ⟨some 6, .mov (.t 33), none, [0, 1, 2, 3, 4, 5, 6, 7, 8]⟩,
    ⟨some 4, .mov (.t 34), none, [0, 1, 2, 3, 4, 5, 6, 7, 8, 9, 10]⟩] [4, 6])
   (.seq (.rgn false [⟨some 35, .mov (.t 4), none, []⟩,
    ⟨some 36, .mov (.t 6), none, []⟩,
    ⟨some 37, .bin .eql 0 (.t 36) (.c (.int .i64 (1))), none, []⟩,
    ⟨some 4, .mov (.t 35), none, []⟩,
    ⟨some 5, .mov (.t 37), none, []⟩] [4, 5])
   (.ret)))), none⟩
/-- arbour/set.Same -/
def F17 : IFn := ⟨2, [.t 4],
   .seq (.rgn false [⟨some 2, .box (.t 0), none, []⟩,
    ⟨some 3, .box (.t 1), none, []⟩,
    ⟨some 4, .mov (.c (.bool false)), none, []⟩] [2, 3])
   (.seq (.rgn false [⟨some 5, .fadr 0 (.t 2), none, []⟩,
    ⟨some 6, .load false 1 (.t 5), none, []⟩,
    ⟨some 7, .fadr 0 (.t 3), none, []⟩,
    ⟨some 8, .load false 1 (.t 7), none, []⟩,
    ⟨some 9, .bin .eql 1 (.t 6) (.t 8), none, []⟩,
    ⟨some 10, .mov (.t 9), none, []⟩,
    ⟨some 11, .fadr 2 (.t 2), some (10, true), []⟩,
    ⟨some 12, .load false 1 (.t 11), some (10, true), []⟩,
    ⟨some 13, .fadr 2 (.t 3), some (10, true), []⟩,
    ⟨some 14, .load false 1 (.t 13), some (10, true), []⟩,
    ⟨some 15, .bin .eql 1 (.t 12) (.t 14), some (10, true), []⟩,
    ⟨some 16, .pick (.t 10) (.t 15) (.c (.bool false)), none, []⟩,
    ⟨some 17, .mov (.t 16), none, []⟩,
    ⟨some 18, .fadr 1 (.t 2), some (17, true), []⟩,
    ⟨some 19, .load false 1 (.t 18), some (17, true), []⟩,
    ⟨some 20, .fadr 1 (.t 3), some (17, true), []⟩,
    ⟨some 21, .load false 1 (.t 20), some (17, true), []⟩,
    ⟨some 22, .call 0 (.c (.fn 32 [])) [.t 19, .t 21], some (17, true), []⟩,
    ⟨some 23, .pick (.t 17) (.t 22) (.c (.bool false)), none, []⟩,
    ⟨some 24, .mov (.t 23), none, []⟩,
    ⟨some 25, .fadr 3 (.t 2), some (24, true), []⟩,
    ⟨some 26, .load false 1 (.t 25), some (24, true), []⟩,
    ⟨some 27, .fadr 3 (.t 3), some (24, true), []⟩,
    ⟨some 28, .load false 1 (.t 27), some (24, true), []⟩,
    ⟨some 29, .call 0 (.c (.fn 33 [])) [.t 26, .t 28], some (24, true), []⟩,
    ⟨some 30, .pick (.t 24) (.t 29) (.c (.bool false)), none, []⟩,
    ⟨some 4, .mov (.t 30), none, []⟩] [4])
   (.ret)), none⟩
/-- arbour/gap.Between -/
def F18 : IFn := ⟨2, [.t 4, .t 5],
   .seq (.rgn false [⟨some 2, .box (.t 0), none, []⟩,
    ⟨some 3, .box (.t 1), none, []⟩,
    ⟨some 4, .mov (.c (.int .u64 (0))), none, []⟩,
    ⟨some 5, .mov (.c (.bool false)), none, []⟩] [2, 3])
   (.seq (.seq (.rgn false [⟨some 6, .fadr 0 (.t 2), none, []⟩,
    ⟨some 7, .load false 1 (.t 6), none, []⟩,
    ⟨some 8, .fadr 1 (.t 2), none, []⟩,
    ⟨some 9, .load false 1 (.t 8), none, []⟩,
    ⟨some 10, .bin .gtr 0 (.t 7) (.t 9), none, []⟩,
    ⟨some 11, .mov (.t 10), none, []⟩,
    ⟨some 12, .fadr 0 (.t 3), some (11, false), []⟩,
    ⟨some 13, .load false 1 (.t 12), some (11, false), []⟩,
    ⟨some 14, .fadr 1 (.t 3), some (11, false), []⟩,
    ⟨some 15, .load false 1 (.t 14), some (11, false), []⟩,
    ⟨some 16, .bin .gtr 0 (.t 13) (.t 15), some (11, false), []⟩,
    ⟨some 17, .pick (.t 11) (.c (.bool true)) (.t 16), none, []⟩,
    ⟨some 18, .mov (.t 17), none, []⟩,
    ⟨some 19, .fadr 1 (.t 2), some (18, false), []⟩,
    ⟨some 20, .load false 1 (.t 19), some (18, false), []⟩,
    ⟨some 21, .fadr 0 (.t 3), some (18, false), []⟩,
    ⟨some 22, .load false 1 (.t 21), some (18, false), []⟩,
    ⟨some 23, .bin .geq 0 (.t 20) (.t 22), some (18, false), []⟩,
    ⟨some 24, .pick (.t 18) (.c (.bool true)) (.t 23), none, []⟩] [2, 3, 24])
   (.cond (.t 24) (.seq (.rgn false [⟨some 4, .mov (.c (.int .u64 (0))), none, []⟩,
    ⟨some 5, .mov (.c (.bool false)), none, []⟩] [4, 5])
   (.ret))
   (.skip)))
   (.seq (.rgn false [⟨some 25, .fadr 0 (.t 3), none, []⟩,
    ⟨some 26, .load false 1 (.t 25), none, []⟩,
    ⟨some 27, .cvi .u64 (.t 26), none, []⟩,
    ⟨some 28, .fadr 1 (.t 2), none, []⟩,
    ⟨some 29, .load false 1 (.t 28), none, []⟩,
    ⟨some 30, .cvi .u64 (.t 29), none, []⟩,
    ⟨some 31, .bin .sub 0 (.t 27) (.t 30), none, []⟩,
    ⟨some 32, .bin .quo 0 (.t 31) (.c (.int .u64 (2))), none, []⟩,
    ⟨some 4, .mov (.t 32), none, []⟩,
    ⟨some 5, .mov (.c (.bool true)), none, []⟩] [4, 5])
   (.ret))), none⟩
/-- arbour/box.With -/
def F19 : IFn := ⟨3, [.cell 6 true 16],
   .seq (.rgn false [⟨some 3, .box (.t 0), none, []⟩,
    ⟨some 5, .box (.t 2), none, []⟩,
    ⟨some 6, .alloc [.bool false, .nsl 2, .bool false, .nsl 1, .bool false, .nsl 2, .bool false, .nsl 1, .bool false, .nsl 2, .bool false, .nsl 1, .bool false, .nsl 2, .bool false, .nsl 1], none, []⟩] [1, 3, 5, 6])
   (.seq (.seq (.rgn false [⟨some 7, .mov (.t 1), none, []⟩,
    ⟨some 8, .bin .geq 0 (.t 7) (.c (.int .i64 (0))), none, []⟩,
    ⟨some 9, .mov (.t 8), none, []⟩,
    ⟨some 10, .mov (.t 1), some (9, true), []⟩,
    ⟨some 11, .bin .lss 0 (.t 10) (.c (.int .i64 (4))), some (9, true), []⟩,
    ⟨some 12, .pick (.t 9) (.t 11) (.c (.bool false)), none, []⟩] [1, 3, 5, 6, 12])
   (.cond (.t 12) (.rgn false [⟨some 13, .mov (.t 1), none, []⟩,
    ⟨some 14, .load true 4 (.t 5), none, []⟩,
    ⟨some 15, .iarr 4 4 (.t 3) (.t 13), none, []⟩,
    ⟨none, .store 4 (.t 15) (.t 14), none, []⟩] [3, 6])
   (.skip)))
   (.seq (.rgn false [⟨some 16, .load true 16 (.t 3), none, []⟩,
    ⟨none, .store 16 (.t 6) (.t 16), none, []⟩] [6])
   (.ret))), none⟩
/-- arbour/arbourref04.Has -/
def F20 : IFn := ⟨2, [.t 4],
   .seq (.rgn false [⟨some 2, .box (.t 0), none, []⟩,
    ⟨some 3, .box (.t 1), none, []⟩,
    ⟨some 4, .mov (.c (.bool false)), none, []⟩] [2, 3])
   (.seq (.seq (.rgn false [⟨some 6, .load true 12 (.t 3), none, []⟩,
    ⟨some 7, .call 0 (.c (.fn 34 [])) [.t 6], none, []⟩,
    ⟨some 8, .un .not (.t 7), none, []⟩] [2, 3, 8])
   (.cond (.t 8) (.seq (.rgn false [⟨some 4, .mov (.c (.bool false)), none, []⟩] [4])
   (.ret))
   (.skip)))
   (.seq (.seq (.rgn false [⟨some 5, .mov (.c (.int .i64 (0))), none, []⟩] [2, 3, 5])
   (.block 0 (.loop [2, 3, 5] (.seq (.seq (.rgn false [⟨some 9, .mov (.t 5), none, []⟩,
    ⟨some 10, .bin .lss 0 (.t 9) (.c (.int .i64 (4))), none, []⟩] [2, 3, 5, 10])
   (.cond (.t 10) (.skip)
   (.exit 0)))
   (.seq (.block 1 (.seq (.rgn true [⟨some 13, .mov (.t 5), none, []⟩,
    ⟨some 14, .iarr 4 4 (.t 2) (.t 13), none, [0]⟩,
    ⟨some 15, .load true 4 (.t 14), none, [0, 1]⟩,
    ⟨some 16, .mov (.t 5), none, []⟩,
    ⟨some 17, .iarr 4 3 (.t 3) (.t 16), none, [3]⟩,
    ⟨some 18, .load true 3 (.t 17), none, [3, 4]⟩,
    ⟨some 19, .call 0 (.c (.fn 35 [])) [.t 15, .t 18], none, [0, 1, 2, 3, 4, 5]⟩,
    ⟨some 20, .un .not (.t 19), none, [0, 1, 2, 3, 4, 5, 6]⟩] [2, 3, 5, 20])
   (.cond (.t 20) (.seq (.rgn false [⟨some 4, .mov (.c (.bool false)), none, []⟩] [4])
   (.ret))
   (.skip))))
   (.rgn false [⟨some 11, .mov (.t 5), none, []⟩,
    ⟨some 12, .bin .add 0 (.t 11) (.c (.int .i64 (1))), none, []⟩,
    ⟨some 5, .mov (.t 12), none, []⟩] [2, 3, 5]))))))
   (.seq (.rgn false [⟨some 4, .mov (.c (.bool true)), none, []⟩] [4])
   (.ret)))), none⟩
/-- arbour/merge.perfect -/
def F21 : IFn := ⟨2, [.t 4, .t 5, .t 6],
   .seq (.rgn false [⟨some 4, .nil0 16, none, []⟩,
    ⟨some 5, .mov (.c (.int .u64 (0))), none, []⟩,
    ⟨some 6, .mov (.c (.bool false)), none, []⟩] [0, 1])
   (.seq (.rgn false [⟨some 10, .mov (.t 0), none, []⟩,
    ⟨some 11, .mov (.t 1), none, []⟩,
    ⟨some 12, .call 3 (.c (.fn 10 [])) [.t 10, .t 11], none, []⟩,
    ⟨some 9, .mov (.t 12), none, []⟩,
    ⟨some 13, .ext (.t 9) 0, none, []⟩,
    ⟨some 14, .ext (.t 9) 1, none, []⟩,
    ⟨some 7, .mov (.t 13), none, []⟩,
    ⟨some 8, .mov (.t 14), none, []⟩] [7, 8])
   (.seq (.rgn false [⟨some 15, .mov (.t 7), none, []⟩,
    ⟨some 16, .mov (.t 8), none, []⟩,
    ⟨some 4, .mov (.t 15), none, []⟩,
    ⟨some 5, .mov (.c (.int .u64 (0))), none, []⟩,
    ⟨some 6, .mov (.t 16), none, []⟩] [4, 5, 6])
   (.ret))), none⟩
/-- (arbour/merge.how).try -/
def F22 : IFn := ⟨4, [.cell 8 true 3, .t 9],
   .seq (.rgn false [⟨some 8, .alloc [.int .i64 0, .nsl 16, .int .u64 0], none, []⟩,
    ⟨some 9, .mov (.c (.bool false)), none, []⟩] [0, 1, 2, 3, 8])
   (.seq (.rgn true [⟨some 14, .mov (.t 0), none, []⟩,
    ⟨some 15, .mov (.t 1), none, []⟩,
    ⟨some 16, .nchk (.t 15), none, [1]⟩,
    ⟨some 17, .fadr 1 (.t 16), none, [1, 2]⟩,
    ⟨some 18, .load false 1 (.t 17), none, [1, 2, 3]⟩,
    ⟨some 19, .mov (.t 2), none, []⟩,
    ⟨some 20, .nchk (.t 19), none, [5]⟩,
    ⟨some 21, .fadr 1 (.t 20), none, [5, 6]⟩,
    ⟨some 22, .load false 1 (.t 21), none, [5, 6, 7]⟩,
    ⟨some 23, .call 3 (.t 14) [.t 18, .t 22], none, [0, 1, 2, 3, 4, 5, 6, 7, 8]⟩,
    ⟨some 13, .mov (.t 23), none, [0, 1, 2, 3, 4, 5, 6, 7, 8, 9]⟩,
    ⟨some 24, .ext (.t 13) 0, none, [0, 1, 2, 3, 4, 5, 6, 7, 8, 9, 10]⟩,
    ⟨some 25, .ext (.t 13) 1, none, [0, 1, 2, 3, 4, 5, 6, 7, 8, 9, 10]⟩,
    ⟨some 26, .ext (.t 13) 2, none, [0, 1, 2, 3, 4, 5, 6, 7, 8, 9, 10]⟩,
    ⟨some 10, .mov (.t 24), none, [0, 1, 2, 3, 4, 5, 6, 7, 8, 9, 10, 11]⟩,
    ⟨some 11, .mov (.t 25), none, [0, 1, 2, 3, 4, 5, 6, 7, 8, 9, 10, 11, 12, 14]⟩,
    ⟨some 12, .mov (.t 26), none, [0, 1, 2, 3, 4, 5, 6, 7, 8, 9, 10, 11, 12, 13, 14, 15]⟩] [1, 2, 3, 8, 10, 11, 12])
   (.seq (.rgn true [⟨some 27, .mov (.t 1), none, []⟩,
    ⟨some 28, .nchk (.t 27), none, [0]⟩,
    ⟨some 29, .fadr 2 (.t 28), none, [0, 1]⟩,
    ⟨some 30, .load false 1 (.t 29), none, [0, 1, 2]⟩,
    ⟨some 31, .mov (.t 2), none, []⟩,
    ⟨some 32, .nchk (.t 31), none, [4]⟩,
    ⟨some 33, .fadr 2 (.t 32), none, [4, 5]⟩,
    ⟨some 34, .load false 1 (.t 33), none, [4, 5, 6]⟩,
    ⟨some 35, .mx (.t 30) [.t 34], none, [0, 1, 2, 3, 4, 5, 6, 7]⟩,
    ⟨some 36, .mov (.t 11), none, []⟩,
    ⟨some 37, .call 0 (.c (.fn 36 [])) [.t 35, .t 36], none, [0, 1, 2, 3, 4, 5, 6, 7, 8, 9]⟩,
    ⟨some 11, .mov (.t 37), none, [0, 1, 2, 3, 4, 5, 6, 7, 8, 9, 10]⟩] [3, 8, 10, 11, 12])
   (.seq (.seq (.rgn false [⟨some 38, .mov (.t 12), none, []⟩,
    ⟨some 39, .un .not (.t 38), none, []⟩,
    ⟨some 40, .mov (.t 39), none, []⟩,
    ⟨some 41, .mov (.t 11), some (40, false), []⟩,
    ⟨some 42, .mov (.t 3), some (40, false), []⟩,
    ⟨some 43, .bin .gtr 0 (.t 41) (.t 42), some (40, false), []⟩,
    ⟨some 44, .pick (.t 40) (.c (.bool true)) (.t 43), none, []⟩,
    ⟨some 45, .mov (.t 44), none, []⟩,
    ⟨some 46, .mov (.t 11), some (45, false), []⟩,
    ⟨some 47, .bin .eql 0 (.t 46) (.c (.int .u64 (18446744073709551615))), some (45, false), []⟩,
    ⟨some 48, .pick (.t 45) (.c (.bool true)) (.t 47), none, []⟩] [8, 10, 11, 48])
   (.cond (.t 48) (.seq (.rgn false [⟨some 49, .build [.int .i64 0, .nsl 16, .int .u64 0] [], none, []⟩,
    ⟨none, .store 3 (.t 8) (.t 49), none, []⟩,
    ⟨some 9, .mov (.c (.bool false)), none, []⟩] [8, 9])
   (.ret))
   (.skip)))
   (.seq (.rgn false [⟨some 50, .mov (.t 10), none, []⟩,
    ⟨some 51, .mov (.t 11), none, []⟩,
    ⟨some 52, .build [.int .i64 0, .nsl 16, .int .u64 0] [(1, 1, .t 50), (2, 1, .t 51)], none, []⟩,
    ⟨none, .store 3 (.t 8) (.t 52), none, []⟩,
    ⟨some 9, .mov (.c (.bool true)), none, []⟩] [8, 9])
   (.ret))))), none⟩
/-- arbour/set.Or -/
def F23 : IFn := ⟨2, [.cell 4 true 4],
   .seq (.rgn false [⟨some 2, .box (.t 0), none, []⟩,
    ⟨some 3, .box (.t 1), none, []⟩,
    ⟨some 4, .alloc [.bool false, .nsl 2, .bool false, .nsl 1], none, []⟩] [2, 3, 4])
   (.seq (.rgn true [⟨some 6, .fadr 0 (.t 2), none, []⟩,
    ⟨some 7, .load false 1 (.t 6), none, [0]⟩,
    ⟨some 8, .mov (.t 7), none, [0, 1]⟩,
    ⟨some 9, .fadr 0 (.t 3), some (8, false), [0, 1, 2]⟩,
    ⟨some 10, .load false 1 (.t 9), some (8, false), [0, 1, 2, 3]⟩,
    ⟨some 11, .pick (.t 8) (.c (.bool true)) (.t 10), none, [0, 1, 2, 3, 4]⟩,
    ⟨some 12, .fadr 1 (.t 2), none, []⟩,
    ⟨some 13, .load false 1 (.t 12), none, [6]⟩,
    ⟨some 14, .call 2 (.c (.fn 38 [])) [.t 13], none, [0, 1, 2, 6, 7]⟩,
    ⟨some 15, .fadr 1 (.t 3), none, []⟩,
    ⟨some 16, .load false 1 (.t 15), none, [9]⟩,
    ⟨some 17, .app 2 (.t 14) (.t 16), none, [0, 1, 2, 6, 7, 8, 9, 10]⟩,
    ⟨some 18, .call 3 (.c (.fn 37 [])) [.t 17], none, [0, 1, 2, 6, 7, 8, 9, 10, 11]⟩,
    ⟨some 19, .fadr 2 (.t 2), none, []⟩,
    ⟨some 20, .load false 1 (.t 19), none, [13]⟩,
    ⟨some 21, .mov (.t 20), none, [0, 1, 2, 6, 7, 8, 9, 10, 11, 12, 13, 14]⟩,
    ⟨some 22, .fadr 2 (.t 3), some (21, false), [0, 1, 2, 6, 7, 8, 9, 10, 11, 12, 13, 14, 15]⟩,
    ⟨some 23, .load false 1 (.t 22), some (21, false), [0, 1, 2, 6, 7, 8, 9, 10, 11, 12, 13, 14, 15, 16]⟩,
    ⟨some 24, .pick (.t 21) (.c (.bool true)) (.t 23), none, [0, 1, 2, 6, 7, 8, 9, 10, 11, 12, 13, 14, 15, 16, 17]⟩,
    ⟨some 25, .build [.bool false, .nsl 2, .bool false, .nsl 1] [(0, 1, .t 11), (1, 1, .t 18), (2, 1, .t 24)], none, [0, 1, 2, 3, 4, 5, 6, 7, 8, 9, 10, 11, 12, 13, 14, 15, 16, 17, 18]⟩,
    ⟨some 5, .alloc [.bool false, .nsl 2, .bool false, .nsl 1], none, []⟩,
    ⟨none, .store 4 (.t 5) (.t 25), none, [0, 1, 2, 3, 4, 5, 6, 7, 8, 9, 10, 11, 12, 13, 14, 15, 16, 17, 18, 19, 20]⟩] [2, 3, 4, 5])
   (.seq (.block 0 (.seq (.rgn false [⟨some 33, .fadr 2 (.t 2), none, []⟩,
    ⟨some 34, .load false 1 (.t 33), none, []⟩,
    ⟨some 35, .mov (.t 34), none, []⟩,
    ⟨some 36, .fadr 2 (.t 3), some (35, true), []⟩,
    ⟨some 37, .load false 1 (.t 36), some (35, true), []⟩,
    ⟨some 38, .pick (.t 35) (.t 37) (.c (.bool false)), none, []⟩,
    ⟨some 32, .mov (.t 38), none, []⟩] [2, 3, 4, 5, 32])
   (.cond (.t 32) (.rgn false [⟨some 39, .fadr 3 (.t 2), none, []⟩,
    ⟨some 40, .load false 1 (.t 39), none, []⟩,
    ⟨some 41, .fadr 3 (.t 3), none, []⟩,
    ⟨some 42, .load false 1 (.t 41), none, []⟩,
    ⟨some 43, .call 3 (.c (.fn 39 [])) [.t 40, .t 42, .c (.bool true)], none, []⟩,
    ⟨some 44, .fadr 3 (.t 5), none, []⟩,
    ⟨none, .store 1 (.t 44) (.t 43), none, []⟩] [4, 5])
   (.seq (.rgn false [⟨some 46, .fadr 2 (.t 2), none, []⟩,
    ⟨some 47, .load false 1 (.t 46), none, []⟩,
    ⟨some 45, .mov (.t 47), none, []⟩] [2, 3, 4, 5, 45])
   (.cond (.t 45) (.rgn false [⟨some 48, .fadr 3 (.t 2), none, []⟩,
    ⟨some 49, .load false 1 (.t 48), none, []⟩,
    ⟨some 50, .fadr 3 (.t 3), none, []⟩,
    ⟨some 51, .load false 1 (.t 50), none, []⟩,
    ⟨some 52, .call 3 (.c (.fn 39 [])) [.t 49, .t 51, .c (.bool false)], none, []⟩,
    ⟨some 53, .fadr 3 (.t 5), none, []⟩,
    ⟨none, .store 1 (.t 53) (.t 52), none, []⟩] [4, 5])
   (.seq (.rgn false [⟨some 55, .fadr 2 (.t 3), none, []⟩,
    ⟨some 56, .load false 1 (.t 55), none, []⟩,
    ⟨some 54, .mov (.t 56), none, []⟩] [2, 3, 4, 5, 54])
   (.cond (.t 54) (.rgn false [⟨some 57, .fadr 3 (.t 3), none, []⟩,
    ⟨some 58, .load false 1 (.t 57), none, []⟩,
    ⟨some 59, .fadr 3 (.t 2), none, []⟩,
    ⟨some 60, .load false 1 (.t 59), none, []⟩,
    ⟨some 61, .call 3 (.c (.fn 39 [])) [.t 58, .t 60, .c (.bool false)], none, []⟩,
    ⟨some 62, .fadr 3 (.t 5), none, []⟩,
    ⟨none, .store 1 (.t 62) (.t 61), none, []⟩] [4, 5])
   (.rgn false [⟨some 26, .fadr 3 (.t 2), none, []⟩,
    ⟨some 27, .load false 1 (.t 26), none, []⟩,
    ⟨some 28, .fadr 3 (.t 3), none, []⟩,
    ⟨some 29, .load false 1 (.t 28), none, []⟩,
    ⟨some 30, .call 3 (.c (.fn 40 [])) [.t 27, .t 29], none, []⟩,
    ⟨some 31, .fadr 3 (.t 5), none, []⟩,
    ⟨none, .store 1 (.t 31) (.t 30), none, []⟩] [4, 5]))))))))
   (.seq (.rgn false [⟨some 63, .load true 4 (.t 5), none, []⟩,
    ⟨none, .store 4 (.t 4) (.t 63), none, []⟩] [4])
   (.ret)))), none⟩
/-- arbour/set.Small -/
def F24 : IFn := ⟨1, [.t 2],
   .seq (.rgn false [⟨some 1, .box (.t 0), none, []⟩,
    ⟨some 2, .mov (.c (.bool false)), none, []⟩] [1])
   (.seq (.rgn false [⟨some 3, .fadr 1 (.t 1), none, []⟩,
    ⟨some 4, .load false 1 (.t 3), none, []⟩,
    ⟨some 5, .len false (.t 4), none, []⟩,
    ⟨some 6, .bin .leq 0 (.t 5) (.c (.int .i64 (6))), none, []⟩,
    ⟨some 7, .mov (.t 6), none, []⟩,
    ⟨some 8, .fadr 3 (.t 1), some (7, true), []⟩,
    ⟨some 9, .load false 1 (.t 8), some (7, true), []⟩,
    ⟨some 10, .len false (.t 9), some (7, true), []⟩,
    ⟨some 11, .bin .leq 0 (.t 10) (.c (.int .i64 (6))), some (7, true), []⟩,
    ⟨some 12, .pick (.t 7) (.t 11) (.c (.bool false)), none, []⟩,
    ⟨some 2, .mov (.t 12), none, []⟩] [2])
   (.ret)), none⟩
/-- arbour/arbourref04.Same -/
def F25 : IFn := ⟨2, [.t 4],
   .seq (.rgn false [⟨some 2, .box (.t 0), none, []⟩,
    ⟨some 3, .box (.t 1), none, []⟩,
    ⟨some 4, .mov (.c (.bool false)), none, []⟩] [2, 3])
   (.seq (.seq (.rgn false [⟨some 5, .mov (.c (.int .i64 (0))), none, []⟩] [2, 3, 5])
   (.block 0 (.loop [2, 3, 5] (.seq (.seq (.rgn false [⟨some 6, .mov (.t 5), none, []⟩,
    ⟨some 7, .bin .lss 0 (.t 6) (.c (.int .i64 (4))), none, []⟩] [2, 3, 5, 7])
   (.cond (.t 7) (.skip)
   (.exit 0)))
   (.seq (.block 1 (.seq (.rgn true [⟨some 10, .mov (.t 5), none, []⟩,
    ⟨some 11, .iarr 4 4 (.t 2) (.t 10), none, [0]⟩,
    ⟨some 12, .load true 4 (.t 11), none, [0, 1]⟩,
    ⟨some 13, .mov (.t 5), none, []⟩,
    ⟨some 14, .iarr 4 4 (.t 3) (.t 13), none, [3]⟩,
    ⟨some 15, .load true 4 (.t 14), none, [3, 4]⟩,
    ⟨some 16, .call 0 (.c (.fn 41 [])) [.t 12, .t 15], none, [0, 1, 2, 3, 4, 5]⟩,
    ⟨some 17, .un .not (.t 16), none, [0, 1, 2, 3, 4, 5, 6]⟩] [2, 3, 5, 17])
   (.cond (.t 17) (.seq (.rgn false [⟨some 4, .mov (.c (.bool false)), none, []⟩] [4])
   (.ret))
   (.skip))))
   (.rgn false [⟨some 8, .mov (.t 5), none, []⟩,
    ⟨some 9, .bin .add 0 (.t 8) (.c (.int .i64 (1))), none, []⟩,
    ⟨some 5, .mov (.t 9), none, []⟩] [2, 3, 5]))))))
   (.seq (.rgn false [⟨some 4, .mov (.c (.bool true)), none, []⟩] [4])
   (.ret))), none⟩
/-- arbour/box.Atom -/
def F26 : IFn := ⟨2, [.cell 4 true 16],
   .seq (.rgn false [⟨some 3, .box (.t 1), none, []⟩,
    ⟨some 4, .alloc [.bool false, .nsl 2, .bool false, .nsl 1, .bool false, .nsl 2, .bool false, .nsl 1, .bool false, .nsl 2, .bool false, .nsl 1, .bool false, .nsl 2, .bool false, .nsl 1], none, []⟩] [0, 3, 4])
   (.seq (.rgn true [⟨some 5, .call 3 (.c (.fn 42 [])) [], none, []⟩,
    ⟨some 6, .mov (.t 0), none, []⟩,
    ⟨some 7, .load true 4 (.t 3), none, []⟩,
    ⟨some 8, .call 3 (.c (.fn 19 [])) [.t 5, .t 6, .t 7], none, [0, 1, 2]⟩,
    ⟨none, .store 16 (.t 4) (.t 8), none, [0, 1, 2, 3]⟩] [4])
   (.ret)), none⟩
/-- arbour/arbourref03.Few -/
def F27 : IFn := ⟨1, [.t 2],
   .seq (.rgn false [⟨some 2, .mov (.c (.bool false)), none, []⟩] [0])
   (.seq (.seq (.rgn false [⟨some 3, .mov (.c (.int .i64 (0))), none, []⟩] [0, 3])
   (.block 0 (.loop [0, 3] (.seq (.seq (.rgn false [⟨some 5, .mov (.t 3), none, []⟩,
    ⟨some 6, .mov (.t 0), none, []⟩,
    ⟨some 7, .len false (.t 6), none, []⟩,
    ⟨some 8, .bin .lss 0 (.t 5) (.t 7), none, []⟩] [0, 3, 8])
   (.cond (.t 8) (.skip)
   (.exit 0)))
   (.seq (.block 1 (.seq (.seq (.rgn false [⟨some 11, .mov (.t 0), none, []⟩,
    ⟨some 12, .mov (.t 3), none, []⟩,
    ⟨some 13, .isl 4 (.t 11) (.t 12), none, []⟩,
    ⟨some 14, .fadr 1 (.t 13), none, []⟩,
    ⟨some 15, .load false 1 (.t 14), none, []⟩,
    ⟨some 16, .len false (.t 15), none, []⟩,
    ⟨some 17, .bin .gtr 0 (.t 16) (.c (.int .i64 (40))), none, []⟩,
    ⟨some 18, .mov (.t 17), none, []⟩,
    ⟨some 19, .mov (.t 0), some (18, false), []⟩,
    ⟨some 20, .mov (.t 3), some (18, false), []⟩,
    ⟨some 21, .isl 4 (.t 19) (.t 20), some (18, false), []⟩,
    ⟨some 22, .fadr 3 (.t 21), some (18, false), []⟩,
    ⟨some 23, .load false 1 (.t 22), some (18, false), []⟩,
    ⟨some 24, .len false (.t 23), some (18, false), []⟩,
    ⟨some 25, .bin .gtr 0 (.t 24) (.c (.int .i64 (40))), some (18, false), []⟩,
    ⟨some 26, .pick (.t 18) (.c (.bool true)) (.t 25), none, []⟩] [0, 3, 26])
   (.cond (.t 26) (.seq (.rgn false [⟨some 2, .mov (.c (.bool false)), none, []⟩] [2])
   (.ret))
   (.skip)))
   (.seq (.rgn false [⟨some 4, .mov (.c (.int .i64 (0))), none, []⟩] [0, 3, 4])
   (.block 2 (.loop [0, 3, 4] (.seq (.seq (.rgn false [⟨some 27, .mov (.t 4), none, []⟩,
    ⟨some 28, .mov (.t 0), none, []⟩,
    ⟨some 29, .mov (.t 3), none, []⟩,
    ⟨some 30, .isl 4 (.t 28) (.t 29), none, []⟩,
    ⟨some 31, .fadr 3 (.t 30), none, []⟩,
    ⟨some 32, .load false 1 (.t 31), none, []⟩,
    ⟨some 33, .len false (.t 32), none, []⟩,
    ⟨some 34, .bin .lss 0 (.t 27) (.t 33), none, []⟩] [0, 3, 4, 34])
   (.cond (.t 34) (.skip)
   (.exit 2)))
   (.seq (.block 3 (.seq (.rgn false [⟨some 37, .mov (.t 0), none, []⟩,
    ⟨some 38, .mov (.t 3), none, []⟩,
    ⟨some 39, .isl 4 (.t 37) (.t 38), none, []⟩,
    ⟨some 40, .fadr 3 (.t 39), none, []⟩,
    ⟨some 41, .load false 1 (.t 40), none, []⟩,
    ⟨some 42, .mov (.t 4), none, []⟩,
    ⟨some 43, .isl 1 (.t 41) (.t 42), none, []⟩,
    ⟨some 44, .load false 1 (.t 43), none, []⟩,
    ⟨some 45, .len true (.t 44), none, []⟩,
    ⟨some 46, .bin .gtr 0 (.t 45) (.c (.int .i64 (100))), none, []⟩] [0, 3, 4, 46])
   (.cond (.t 46) (.seq (.rgn false [⟨some 2, .mov (.c (.bool false)), none, []⟩] [2])
   (.ret))
   (.skip))))
   (.rgn false [⟨some 35, .mov (.t 4), none, []⟩,
    ⟨some 36, .bin .add 0 (.t 35) (.c (.int .i64 (1))), none, []⟩,
    ⟨some 4, .mov (.t 36), none, []⟩] [0, 3, 4]))))))))
   (.rgn false [⟨some 9, .mov (.t 3), none, []⟩,
    ⟨some 10, .bin .add 0 (.t 9) (.c (.int .i64 (1))), none, []⟩,
    ⟨some 3, .mov (.t 10), none, []⟩] [0, 3]))))))
   (.seq (.rgn false [⟨some 2, .mov (.c (.bool true)), none, []⟩] [2])
   (.ret))), none⟩
/-- arbour/arbourref12.Add -/
def F28 : IFn := ⟨2, [.t 4],
   .seq (.rgn false [⟨some 4, .mov (.c (.int .u64 (0))), none, []⟩] [0, 1])
   (.seq (.seq (.rgn false [⟨some 5, .mov (.t 0), none, []⟩,
    ⟨some 6, .bin .eql 0 (.t 5) (.c (.int .u64 (18446744073709551615))), none, []⟩,
    ⟨some 7, .mov (.t 6), none, []⟩,
    ⟨some 8, .mov (.t 1), some (7, false), []⟩,
    ⟨some 9, .bin .eql 0 (.t 8) (.c (.int .u64 (18446744073709551615))), some (7, false), []⟩,
    ⟨some 10, .pick (.t 7) (.c (.bool true)) (.t 9), none, []⟩,
    ⟨some 11, .mov (.t 10), none, []⟩,
    ⟨some 12, .mov (.t 0), some (11, false), []⟩,
    ⟨some 13, .mov (.t 1), some (11, false), []⟩,
    ⟨some 14, .bin .add 0 (.t 12) (.t 13), some (11, false), []⟩,
    ⟨some 15, .mov (.t 0), some (11, false), []⟩,
    ⟨some 16, .bin .lss 0 (.t 14) (.t 15), some (11, false), []⟩,
    ⟨some 17, .pick (.t 11) (.c (.bool true)) (.t 16), none, []⟩] [0, 1, 17])
   (.cond (.t 17) (.seq (.rgn false [⟨some 4, .mov (.c (.int .u64 (18446744073709551615))), none, []⟩] [4])
   (.ret))
   (.skip)))
   (.seq (.rgn false [⟨some 18, .mov (.t 0), none, []⟩,
    ⟨some 19, .mov (.t 1), none, []⟩,
    ⟨some 20, .bin .add 0 (.t 18) (.t 19), none, []⟩,
    ⟨some 4, .mov (.t 20), none, []⟩] [4])
   (.ret))), none⟩
/-- arbour/arbourref12.Value -/
def F29 : IFn := ⟨2, [.t 4],
   .seq (.rgn false [⟨some 2, .box (.t 0), none, []⟩,
    ⟨some 3, .box (.t 1), none, []⟩,
    ⟨some 4, .mov (.c (.int .u64 (0))), none, []⟩] [2, 3])
   (.seq (.seq (.rgn false [⟨some 7, .load true 4 (.t 2), none, []⟩,
    ⟨some 8, .load true 3 (.t 3), none, []⟩,
    ⟨some 9, .call 0 (.c (.fn 35 [])) [.t 7, .t 8], none, []⟩] [2, 3, 9])
   (.cond (.t 9) (.seq (.rgn false [⟨some 4, .mov (.c (.int .u64 (0))), none, []⟩] [4])
   (.ret))
   (.skip)))
   (.seq (.rgn false [⟨some 5, .mov (.c (.int .u64 (18446744073709551615))), none, []⟩] [2, 3, 5])
   (.seq (.seq (.rgn false [⟨some 10, .fadr 0 (.t 3), none, []⟩,
    ⟨some 11, .load false 1 (.t 10), none, []⟩,
    ⟨some 12, .bin .neq 0 (.t 11) (.c (.int .i64 (1))), none, []⟩,
    ⟨some 13, .mov (.t 12), none, []⟩,
    ⟨some 14, .load true 3 (.t 3), some (13, false), []⟩,
    ⟨some 15, .call 0 (.c (.fn 43 [])) [.t 14], some (13, false), []⟩,
    ⟨some 16, .un .not (.t 15), some (13, false), []⟩,
    ⟨some 17, .pick (.t 13) (.c (.bool true)) (.t 16), none, []⟩] [2, 3, 5, 17])
   (.cond (.t 17) (.seq (.rgn false [⟨some 18, .mov (.t 5), none, []⟩,
    ⟨some 4, .mov (.t 18), none, []⟩] [4])
   (.ret))
   (.skip)))
   (.seq (.seq (.rgn false [⟨some 6, .mov (.c (.int .i64 (0))), none, []⟩] [2, 3, 5, 6])
   (.block 0 (.loop [2, 3, 5, 6] (.seq (.seq (.rgn false [⟨some 19, .mov (.t 6), none, []⟩,
    ⟨some 20, .fadr 1 (.t 2), none, []⟩,
    ⟨some 21, .load false 1 (.t 20), none, []⟩,
    ⟨some 22, .len false (.t 21), none, []⟩,
    ⟨some 23, .bin .lss 0 (.t 19) (.t 22), none, []⟩] [2, 3, 5, 6, 23])
   (.cond (.t 23) (.skip)
   (.exit 0)))
   (.seq (.block 1 (.seq (.rgn true [⟨some 26, .fadr 1 (.t 2), none, []⟩,
    ⟨some 27, .load false 1 (.t 26), none, [0]⟩,
    ⟨some 28, .mov (.t 6), none, []⟩,
    ⟨some 29, .isl 2 (.t 27) (.t 28), none, [0, 1, 2]⟩,
    ⟨some 30, .fadr 0 (.t 29), none, [0, 1, 2, 3]⟩,
    ⟨some 31, .load false 1 (.t 30), none, [0, 1, 2, 3, 4]⟩,
    ⟨some 32, .fadr 1 (.t 2), none, []⟩,
    ⟨some 33, .load false 1 (.t 32), none, [6]⟩,
    ⟨some 34, .mov (.t 6), none, []⟩,
    ⟨some 35, .isl 2 (.t 33) (.t 34), none, [6, 7, 8]⟩,
    ⟨some 36, .fadr 1 (.t 35), none, [6, 7, 8, 9]⟩,
    ⟨some 37, .load false 1 (.t 36), none, [6, 7, 8, 9, 10]⟩,
    ⟨some 38, .bin .leq 0 (.t 31) (.t 37), none, [0, 1, 2, 3, 4, 5, 6, 7, 8, 9, 10, 11]⟩] [2, 3, 5, 6, 38])
   (.cond (.t 38) (.rgn true [⟨some 39, .mov (.t 5), none, []⟩,
    ⟨some 40, .fadr 1 (.t 2), none, []⟩,
    ⟨some 41, .load false 1 (.t 40), none, [1]⟩,
    ⟨some 42, .mov (.t 6), none, []⟩,
    ⟨some 43, .isl 2 (.t 41) (.t 42), none, [1, 2, 3]⟩,
    ⟨some 44, .fadr 0 (.t 43), none, [1, 2, 3, 4]⟩,
    ⟨some 45, .load false 1 (.t 44), none, [1, 2, 3, 4, 5]⟩,
    ⟨some 46, .fadr 1 (.t 3), none, []⟩,
    ⟨some 47, .load false 1 (.t 46), none, [7]⟩,
    ⟨some 48, .call 0 (.c (.fn 44 [])) [.t 45, .t 47], none, [1, 2, 3, 4, 5, 6, 7, 8]⟩,
    ⟨some 49, .fadr 1 (.t 2), none, []⟩,
    ⟨some 50, .load false 1 (.t 49), none, [10]⟩,
    ⟨some 51, .mov (.t 6), none, []⟩,
    ⟨some 52, .isl 2 (.t 50) (.t 51), none, [10, 11, 12]⟩,
    ⟨some 53, .fadr 1 (.t 52), none, [10, 11, 12, 13]⟩,
    ⟨some 54, .load false 1 (.t 53), none, [10, 11, 12, 13, 14]⟩,
    ⟨some 55, .fadr 1 (.t 3), none, []⟩,
    ⟨some 56, .load false 1 (.t 55), none, [16]⟩,
    ⟨some 57, .call 0 (.c (.fn 44 [])) [.t 54, .t 56], none, [1, 2, 3, 4, 5, 6, 7, 8, 9, 10, 11, 12, 13, 14, 15, 16, 17]⟩,
    ⟨some 58, .mn (.t 48) [.t 57], none, [1, 2, 3, 4, 5, 6, 7, 8, 9, 10, 11, 12, 13, 14, 15, 16, 17, 18]⟩,
    ⟨some 59, .mn (.t 39) [.t 58], none, [0, 1, 2, 3, 4, 5, 6, 7, 8, 9, 10, 11, 12, 13, 14, 15, 16, 17, 18, 19]⟩,
    ⟨some 5, .mov (.t 59), none, [0, 1, 2, 3, 4, 5, 6, 7, 8, 9, 10, 11, 12, 13, 14, 15, 16, 17, 18, 19, 20]⟩] [2, 3, 5, 6])
   (.skip))))
   (.rgn false [⟨some 24, .mov (.t 6), none, []⟩,
    ⟨some 25, .bin .add 0 (.t 24) (.c (.int .i64 (1))), none, []⟩,
    ⟨some 6, .mov (.t 25), none, []⟩] [2, 3, 5, 6]))))))
   (.seq (.rgn false [⟨some 60, .mov (.t 5), none, []⟩,
    ⟨some 4, .mov (.t 60), none, []⟩] [4])
   (.ret)))))), none⟩
/-- arbour/dnf.Right -/
def F30 : IFn := ⟨1, [.t 2],
   .seq (.rgn false [⟨some 2, .mov (.c (.bool false)), none, []⟩] [0])
   (.seq (.seq (.rgn false [⟨some 5, .mov (.t 0), none, []⟩,
    ⟨some 6, .len false (.t 5), none, []⟩,
    ⟨some 7, .bin .gtr 0 (.t 6) (.c (.int .i64 (4))), none, []⟩] [0, 7])
   (.cond (.t 7) (.seq (.rgn false [⟨some 2, .mov (.c (.bool false)), none, []⟩] [2])
   (.ret))
   (.skip)))
   (.seq (.seq (.rgn false [⟨some 8, .mov (.t 0), none, []⟩,
    ⟨some 9, .len false (.t 8), none, []⟩,
    ⟨some 10, .mov (.c (.int .i64 (0))), none, []⟩] [0, 8, 9, 10])
   (.block 0 (.loop [0, 8, 9, 10] (.seq (.rgn false [⟨some 11, .bin .lss 0 (.t 10) (.t 9), none, []⟩] [0, 8, 9, 10, 11])
   (.seq (.cond (.t 11) (.skip)
   (.exit 0))
   (.seq (.block 1 (.seq (.rgn false [⟨some 12, .isl 16 (.t 8) (.t 10), none, []⟩,
    ⟨some 13, .load true 16 (.t 12), none, []⟩,
    ⟨some 4, .alloc [.bool false, .nsl 2, .bool false, .nsl 1, .bool false, .nsl 2, .bool false, .nsl 1, .bool false, .nsl 2, .bool false, .nsl 1, .bool false, .nsl 2, .bool false, .nsl 1], none, []⟩,
    ⟨none, .store 16 (.t 4) (.t 13), none, []⟩] [0, 4, 8, 9, 10])
   (.seq (.rgn false [⟨some 14, .load true 16 (.t 4), none, []⟩,
    ⟨some 15, .call 0 (.c (.fn 45 [])) [.t 14], none, []⟩,
    ⟨some 16, .un .not (.t 15), none, []⟩,
    ⟨some 17, .mov (.t 16), none, []⟩,
    ⟨some 18, .load true 16 (.t 4), some (17, false), []⟩,
    ⟨some 19, .call 0 (.c (.fn 46 [])) [.t 18], some (17, false), []⟩,
    ⟨some 20, .un .not (.t 19), some (17, false), []⟩,
    ⟨some 21, .pick (.t 17) (.c (.bool true)) (.t 20), none, []⟩] [0, 8, 9, 10, 21])
   (.cond (.t 21) (.seq (.rgn false [⟨some 2, .mov (.c (.bool false)), none, []⟩] [2])
   (.ret))
   (.skip)))))
   (.rgn false [⟨some 22, .bin .add 0 (.t 10) (.c (.int .i64 (1))), none, []⟩,
    ⟨some 10, .mov (.t 22), none, []⟩] [0, 8, 9, 10])))))))
   (.seq (.rgn false [⟨some 23, .mov (.t 0), none, []⟩,
    ⟨some 24, .call 3 (.c (.fn 47 [])) [.t 23], none, []⟩,
    ⟨some 25, .len false (.t 24), none, []⟩,
    ⟨some 26, .mov (.t 0), none, []⟩,
    ⟨some 27, .len false (.t 26), none, []⟩,
    ⟨some 28, .bin .eql 0 (.t 25) (.t 27), none, []⟩,
    ⟨some 2, .mov (.t 28), none, []⟩] [2])
   (.ret)))), none⟩
/-- arbour/box.Differ -/
def F31 : IFn := ⟨2, [.t 4, .t 5],
   .seq (.rgn false [⟨some 2, .box (.t 0), none, []⟩,
    ⟨some 3, .box (.t 1), none, []⟩,
    ⟨some 4, .mov (.c (.int .i64 (0))), none, []⟩,
    ⟨some 5, .mov (.c (.int .i64 (0))), none, []⟩] [2, 3, 4])
   (.seq (.rgn false [⟨some 5, .mov (.c (.int .i64 (-1))), none, []⟩] [2, 3, 4, 5])
   (.seq (.seq (.rgn false [⟨some 7, .mov (.c (.int .i64 (0))), none, []⟩] [2, 3, 4, 5, 7])
   (.block 0 (.loop [2, 3, 4, 5, 7] (.seq (.rgn false [⟨some 8, .bin .lss 0 (.t 7) (.c (.int .i64 (4))), none, []⟩] [2, 3, 4, 5, 7, 8])
   (.seq (.cond (.t 8) (.skip)
   (.exit 0))
   (.seq (.block 1 (.seq (.rgn false [⟨some 9, .mov (.t 7), none, []⟩,
    ⟨some 6, .mov (.t 9), none, []⟩] [2, 3, 4, 5, 6, 7])
   (.seq (.seq (.rgn true [⟨some 10, .mov (.t 6), none, []⟩,
    ⟨some 11, .iarr 4 4 (.t 2) (.t 10), none, [0]⟩,
    ⟨some 12, .load true 4 (.t 11), none, [0, 1]⟩,
    ⟨some 13, .mov (.t 6), none, []⟩,
    ⟨some 14, .iarr 4 4 (.t 3) (.t 13), none, [3]⟩,
    ⟨some 15, .load true 4 (.t 14), none, [3, 4]⟩,
    ⟨some 16, .call 0 (.c (.fn 17 [])) [.t 12, .t 15], none, [0, 1, 2, 3, 4, 5]⟩] [2, 3, 4, 5, 6, 7, 16])
   (.cond (.t 16) (.exit 1)
   (.skip)))
   (.seq (.rgn false [⟨some 17, .mov (.t 4), none, []⟩,
    ⟨some 18, .bin .add 0 (.t 17) (.c (.int .i64 (1))), none, []⟩,
    ⟨some 4, .mov (.t 18), none, []⟩] [2, 3, 4, 5, 6, 7])
   (.seq (.rgn false [⟨some 19, .mov (.t 4), none, []⟩,
    ⟨some 20, .bin .eql 0 (.t 19) (.c (.int .i64 (1))), none, []⟩] [2, 3, 4, 5, 6, 7, 20])
   (.cond (.t 20) (.rgn false [⟨some 21, .mov (.t 6), none, []⟩,
    ⟨some 5, .mov (.t 21), none, []⟩] [2, 3, 4, 5, 7])
   (.skip)))))))
   (.rgn false [⟨some 22, .bin .add 0 (.t 7) (.c (.int .i64 (1))), none, []⟩,
    ⟨some 7, .mov (.t 22), none, []⟩] [2, 3, 4, 5, 7])))))))
   (.seq (.rgn false [⟨some 23, .mov (.t 4), none, []⟩,
    ⟨some 24, .mov (.t 5), none, []⟩,
    ⟨some 4, .mov (.t 23), none, []⟩,
    ⟨some 5, .mov (.t 24), none, []⟩] [4, 5])
   (.ret)))), none⟩
/-- slices.Equal[[]arbour/api.Range,arbour/api.Range] -/
def F32 : IFn := ⟨2, [.t 4],
   .seq (.rgn false [⟨some 4, .mov (.c (.bool false)), none, []⟩] [0, 1])
   (.seq (.seq (.rgn false [⟨some 6, .mov (.t 0), none, []⟩,
    ⟨some 7, .len false (.t 6), none, []⟩,
    ⟨some 8, .mov (.t 1), none, []⟩,
    ⟨some 9, .len false (.t 8), none, []⟩,
    ⟨some 10, .bin .neq 0 (.t 7) (.t 9), none, []⟩] [0, 1, 10])
   (.cond (.t 10) (.seq (.rgn false [⟨some 4, .mov (.c (.bool false)), none, []⟩] [4])
   (.ret))
   (.skip)))
   (.seq (.seq (.rgn false [⟨some 11, .mov (.t 0), none, []⟩,
    ⟨some 12, .len false (.t 11), none, []⟩,
    ⟨some 13, .mov (.c (.int .i64 (0))), none, []⟩] [0, 1, 12, 13])
   (.block 0 (.loop [0, 1, 12, 13] (.seq (.rgn false [⟨some 14, .bin .lss 0 (.t 13) (.t 12), none, []⟩] [0, 1, 12, 13, 14])
   (.seq (.cond (.t 14) (.skip)
   (.exit 0))
   (.seq (.block 1 (.seq (.rgn false [⟨some 15, .mov (.t 13), none, []⟩,
    ⟨some 5, .mov (.t 15), none, []⟩] [0, 1, 5, 12, 13])
   (.seq (.rgn true [⟨some 16, .mov (.t 0), none, []⟩,
    ⟨some 17, .mov (.t 5), none, []⟩,
    ⟨some 18, .isl 2 (.t 16) (.t 17), none, [0, 1]⟩,
    ⟨some 19, .load true 2 (.t 18), none, [0, 1, 2]⟩,
    ⟨some 20, .mov (.t 1), none, []⟩,
    ⟨some 21, .mov (.t 5), none, []⟩,
    ⟨some 22, .isl 2 (.t 20) (.t 21), none, [4, 5]⟩,
    ⟨some 23, .load true 2 (.t 22), none, [4, 5, 6]⟩,
    ⟨some 24, .eqc true [0, 0] (.t 19) (.t 23), none, [0, 1, 2, 3, 4, 5, 6, 7]⟩] [0, 1, 12, 13, 24])
   (.cond (.t 24) (.seq (.rgn false [⟨some 4, .mov (.c (.bool false)), none, []⟩] [4])
   (.ret))
   (.skip)))))
   (.rgn false [⟨some 25, .bin .add 0 (.t 13) (.c (.int .i64 (1))), none, []⟩,
    ⟨some 13, .mov (.t 25), none, []⟩] [0, 1, 12, 13])))))))
   (.seq (.rgn false [⟨some 4, .mov (.c (.bool true)), none, []⟩] [4])
   (.ret)))), none⟩
/-- slices.Equal[[]string,string] -/
def F33 : IFn := ⟨2, [.t 4],
   .seq (.rgn false [⟨some 4, .mov (.c (.bool false)), none, []⟩] [0, 1])
   (.seq (.seq (.rgn false [⟨some 6, .mov (.t 0), none, []⟩,
    ⟨some 7, .len false (.t 6), none, []⟩,
    ⟨some 8, .mov (.t 1), none, []⟩,
    ⟨some 9, .len false (.t 8), none, []⟩,
    ⟨some 10, .bin .neq 0 (.t 7) (.t 9), none, []⟩] [0, 1, 10])
   (.cond (.t 10) (.seq (.rgn false [⟨some 4, .mov (.c (.bool false)), none, []⟩] [4])
   (.ret))
   (.skip)))
   (.seq (.seq (.rgn false [⟨some 11, .mov (.t 0), none, []⟩,
    ⟨some 12, .len false (.t 11), none, []⟩,
    ⟨some 13, .mov (.c (.int .i64 (0))), none, []⟩] [0, 1, 12, 13])
   (.block 0 (.loop [0, 1, 12, 13] (.seq (.rgn false [⟨some 14, .bin .lss 0 (.t 13) (.t 12), none, []⟩] [0, 1, 12, 13, 14])
   (.seq (.cond (.t 14) (.skip)
   (.exit 0))
   (.seq (.block 1 (.seq (.rgn false [⟨some 15, .mov (.t 13), none, []⟩,
    ⟨some 5, .mov (.t 15), none, []⟩] [0, 1, 5, 12, 13])
   (.seq (.rgn true [⟨some 16, .mov (.t 0), none, []⟩,
    ⟨some 17, .mov (.t 5), none, []⟩,
    ⟨some 18, .isl 1 (.t 16) (.t 17), none, [0, 1]⟩,
    ⟨some 19, .load false 1 (.t 18), none, [0, 1, 2]⟩,
    ⟨some 20, .mov (.t 1), none, []⟩,
    ⟨some 21, .mov (.t 5), none, []⟩,
    ⟨some 22, .isl 1 (.t 20) (.t 21), none, [4, 5]⟩,
    ⟨some 23, .load false 1 (.t 22), none, [4, 5, 6]⟩,
    ⟨some 24, .bin .neq 0 (.t 19) (.t 23), none, [0, 1, 2, 3, 4, 5, 6, 7]⟩] [0, 1, 12, 13, 24])
   (.cond (.t 24) (.seq (.rgn false [⟨some 4, .mov (.c (.bool false)), none, []⟩] [4])
   (.ret))
   (.skip)))))
   (.rgn false [⟨some 25, .bin .add 0 (.t 13) (.c (.int .i64 (1))), none, []⟩,
    ⟨some 13, .mov (.t 25), none, []⟩] [0, 1, 12, 13])))))))
   (.seq (.rgn false [⟨some 4, .mov (.c (.bool true)), none, []⟩] [4])
   (.ret)))), none⟩
/-- arbour/arbourref01.Event -/
def F34 : IFn := ⟨1, [.t 2],
   .seq (.rgn false [⟨some 1, .box (.t 0), none, []⟩,
    ⟨some 2, .mov (.c (.bool false)), none, []⟩] [1])
   (.seq (.seq (.rgn false [⟨some 3, .mov (.c (.int .i64 (0))), none, []⟩] [1, 3])
   (.block 0 (.loop [1, 3] (.seq (.seq (.rgn false [⟨some 4, .mov (.t 3), none, []⟩,
    ⟨some 5, .bin .lss 0 (.t 4) (.c (.int .i64 (4))), none, []⟩] [1, 3, 5])
   (.cond (.t 5) (.skip)
   (.exit 0)))
   (.seq (.block 1 (.seq (.rgn false [⟨some 8, .mov (.t 3), none, []⟩,
    ⟨some 9, .iarr 4 3 (.t 1) (.t 8), none, []⟩,
    ⟨some 10, .load true 3 (.t 9), none, []⟩,
    ⟨some 11, .call 0 (.c (.fn 43 [])) [.t 10], none, []⟩,
    ⟨some 12, .un .not (.t 11), none, []⟩] [1, 3, 12])
   (.cond (.t 12) (.seq (.rgn false [⟨some 2, .mov (.c (.bool false)), none, []⟩] [2])
   (.ret))
   (.skip))))
   (.rgn false [⟨some 6, .mov (.t 3), none, []⟩,
    ⟨some 7, .bin .add 0 (.t 6) (.c (.int .i64 (1))), none, []⟩,
    ⟨some 3, .mov (.t 7), none, []⟩] [1, 3]))))))
   (.seq (.rgn false [⟨some 2, .mov (.c (.bool true)), none, []⟩] [2])
   (.ret))), none⟩
/-- arbour/arbourref03.Has -/
def F35 : IFn := ⟨2, [.t 4],
   .seq (.rgn false [⟨some 2, .box (.t 0), none, []⟩,
    ⟨some 3, .box (.t 1), none, []⟩,
    ⟨some 4, .mov (.c (.bool false)), none, []⟩] [2, 3])
   (.seq (.seq (.rgn false [⟨some 5, .load true 3 (.t 3), none, []⟩,
    ⟨some 6, .call 0 (.c (.fn 43 [])) [.t 5], none, []⟩,
    ⟨some 7, .un .not (.t 6), none, []⟩] [2, 3, 7])
   (.cond (.t 7) (.seq (.rgn false [⟨some 4, .mov (.c (.bool false)), none, []⟩] [4])
   (.ret))
   (.skip)))
   (.seq (.seq (.rgn false [⟨some 8, .fadr 0 (.t 3), none, []⟩,
    ⟨some 9, .load false 1 (.t 8), none, []⟩] [2, 3, 9])
   (.block 0 (.seq (.rgn false [⟨some 11, .bin .eql 0 (.t 9) (.c (.int .i64 (0))), none, []⟩,
    ⟨some 10, .mov (.t 11), none, []⟩] [2, 3, 9, 10])
   (.cond (.t 10) (.seq (.rgn false [⟨some 12, .fadr 0 (.t 2), none, []⟩,
    ⟨some 13, .load false 1 (.t 12), none, []⟩,
    ⟨some 4, .mov (.t 13), none, []⟩] [4])
   (.ret))
   (.seq (.rgn false [⟨some 15, .bin .eql 0 (.t 9) (.c (.int .i64 (1))), none, []⟩,
    ⟨some 14, .mov (.t 15), none, []⟩] [2, 3, 14])
   (.cond (.t 14) (.seq (.rgn false [⟨some 16, .fadr 1 (.t 2), none, []⟩,
    ⟨some 17, .load false 1 (.t 16), none, []⟩,
    ⟨some 18, .fadr 1 (.t 3), none, []⟩,
    ⟨some 19, .load false 1 (.t 18), none, []⟩,
    ⟨some 20, .call 0 (.c (.fn 48 [])) [.t 17, .t 19], none, []⟩,
    ⟨some 4, .mov (.t 20), none, []⟩] [4])
   (.ret))
   (.skip)))))))
   (.seq (.rgn true [⟨some 21, .fadr 3 (.t 2), none, []⟩,
    ⟨some 22, .load false 1 (.t 21), none, [0]⟩,
    ⟨some 23, .fadr 2 (.t 3), none, []⟩,
    ⟨some 24, .load false 1 (.t 23), none, [2]⟩,
    ⟨some 25, .call 0 (.c (.fn 49 [])) [.t 22, .t 24], none, [0, 1, 2, 3]⟩,
    ⟨some 26, .fadr 2 (.t 2), none, []⟩,
    ⟨some 27, .load false 1 (.t 26), none, [5]⟩,
    ⟨some 28, .bin .neq 1 (.t 25) (.t 27), none, [0, 1, 2, 3, 4, 5, 6]⟩,
    ⟨some 4, .mov (.t 28), none, [0, 1, 2, 3, 4, 5, 6, 7]⟩] [4])
   (.ret)))), none⟩
/-- arbour/gap.Add -/
def F36 : IFn := ⟨2, [.t 4],
   .seq (.rgn false [⟨some 4, .mov (.c (.int .u64 (0))), none, []⟩] [0, 1])
   (.seq (.seq (.rgn false [⟨some 5, .mov (.t 0), none, []⟩,
    ⟨some 6, .mov (.t 1), none, []⟩,
    ⟨some 7, .bin .sub 0 (.c (.int .u64 (18446744073709551615))) (.t 6), none, []⟩,
    ⟨some 8, .bin .gtr 0 (.t 5) (.t 7), none, []⟩] [0, 1, 8])
   (.cond (.t 8) (.seq (.rgn false [⟨some 4, .mov (.c (.int .u64 (18446744073709551615))), none, []⟩] [4])
   (.ret))
   (.skip)))
   (.seq (.rgn false [⟨some 9, .mov (.t 0), none, []⟩,
    ⟨some 10, .mov (.t 1), none, []⟩,
    ⟨some 11, .bin .add 0 (.t 9) (.t 10), none, []⟩,
    ⟨some 4, .mov (.t 11), none, []⟩] [4])
   (.ret))), none⟩
/-- arbour/set.Ranges -/
def F37 : IFn := ⟨1, [.t 2],
   .seq (.rgn false [⟨some 2, .nil0 2, none, []⟩] [0, 2])
   (.seq (.rgn false [⟨some 6, .mov (.t 0), none, []⟩,
    ⟨some 7, .call 2 (.c (.fn 38 [])) [.t 6], none, []⟩,
    ⟨some 0, .mov (.t 7), none, []⟩] [0, 2])
   (.seq (.rgn false [⟨some 8, .mov (.t 0), none, []⟩,
    ⟨some 9, .call 1 (.c (.fn 50 [])) [.t 8, .c (.fn 51 [])], none, []⟩] [0, 2])
   (.seq (.seq (.rgn false [⟨some 10, .mov (.t 0), none, []⟩,
    ⟨some 11, .len false (.t 10), none, []⟩,
    ⟨some 12, .mov (.c (.int .i64 (0))), none, []⟩] [2, 10, 11, 12])
   (.block 0 (.loop [2, 10, 11, 12] (.seq (.rgn false [⟨some 13, .bin .lss 0 (.t 12) (.t 11), none, []⟩] [2, 10, 11, 12, 13])
   (.seq (.cond (.t 13) (.skip)
   (.exit 0))
   (.seq (.block 1 (.seq (.rgn false [⟨some 14, .isl 2 (.t 10) (.t 12), none, []⟩,
    ⟨some 15, .load true 2 (.t 14), none, []⟩,
    ⟨some 4, .alloc [.int .i64 0, .int .i64 0], none, []⟩,
    ⟨none, .store 2 (.t 4) (.t 15), none, []⟩] [2, 4, 10, 11, 12])
   (.seq (.seq (.rgn false [⟨some 16, .fadr 0 (.t 4), none, []⟩,
    ⟨some 17, .load false 1 (.t 16), none, []⟩,
    ⟨some 18, .fadr 1 (.t 4), none, []⟩,
    ⟨some 19, .load false 1 (.t 18), none, []⟩,
    ⟨some 20, .bin .gtr 0 (.t 17) (.t 19), none, []⟩] [2, 4, 10, 11, 12, 20])
   (.cond (.t 20) (.exit 1)
   (.skip)))
   (.seq (.rgn false [⟨some 21, .mov (.t 2), none, []⟩,
    ⟨some 22, .len false (.t 21), none, []⟩,
    ⟨some 5, .mov (.t 22), none, []⟩] [2, 4, 5, 10, 11, 12])
   (.seq (.seq (.rgn true [⟨some 23, .mov (.t 5), none, []⟩,
    ⟨some 24, .bin .gtr 0 (.t 23) (.c (.int .i64 (0))), none, [0]⟩,
    ⟨some 25, .mov (.t 24), none, [0, 1]⟩,
    ⟨some 26, .mov (.t 2), some (25, true), [0, 1, 2]⟩,
    ⟨some 27, .mov (.t 5), some (25, true), [0, 1, 2]⟩,
    ⟨some 28, .bin .sub 0 (.t 27) (.c (.int .i64 (1))), some (25, true), [0, 1, 2, 4]⟩,
    ⟨some 29, .isl 2 (.t 26) (.t 28), some (25, true), [0, 1, 2, 3, 4, 5]⟩,
    ⟨some 30, .fadr 1 (.t 29), some (25, true), [0, 1, 2, 3, 4, 5, 6]⟩,
    ⟨some 31, .load false 1 (.t 30), some (25, true), [0, 1, 2, 3, 4, 5, 6, 7]⟩,
    ⟨some 32, .bin .eql 0 (.t 31) (.c (.int .i64 (9223372036854775807))), some (25, true), [0, 1, 2, 3, 4, 5, 6, 7, 8]⟩,
    ⟨some 33, .mov (.t 32), some (25, true), [0, 1, 2, 3, 4, 5, 6, 7, 8, 9]⟩,
    ⟨some 34, .fadr 0 (.t 4), some (33, false), [0, 1, 2, 3, 4, 5, 6, 7, 8, 9, 10]⟩,
    ⟨some 35, .load false 1 (.t 34), some (33, false), [0, 1, 2, 3, 4, 5, 6, 7, 8, 9, 10, 11]⟩,
    ⟨some 36, .mov (.t 2), some (33, false), [0, 1, 2, 3, 4, 5, 6, 7, 8, 9, 10]⟩,
    ⟨some 37, .mov (.t 5), some (33, false), [0, 1, 2, 3, 4, 5, 6, 7, 8, 9, 10]⟩,
    ⟨some 38, .bin .sub 0 (.t 37) (.c (.int .i64 (1))), some (33, false), [0, 1, 2, 3, 4, 5, 6, 7, 8, 9, 10, 14]⟩,
    ⟨some 39, .isl 2 (.t 36) (.t 38), some (33, false), [0, 1, 2, 3, 4, 5, 6, 7, 8, 9, 10, 13, 14, 15]⟩,
    ⟨some 40, .fadr 1 (.t 39), some (33, false), [0, 1, 2, 3, 4, 5, 6, 7, 8, 9, 10, 13, 14, 15, 16]⟩,
    ⟨some 41, .load false 1 (.t 40), some (33, false), [0, 1, 2, 3, 4, 5, 6, 7, 8, 9, 10, 13, 14, 15, 16, 17]⟩,
    ⟨some 42, .bin .add 0 (.t 41) (.c (.int .i64 (1))), some (33, false), [0, 1, 2, 3, 4, 5, 6, 7, 8, 9, 10, 13, 14, 15, 16, 17, 18]⟩,
    ⟨some 43, .bin .leq 0 (.t 35) (.t 42), some (33, false), [0, 1, 2, 3, 4, 5, 6, 7, 8, 9, 10, 11, 12, 13, 14, 15, 16, 17, 18, 19]⟩,
    ⟨some 44, .pick (.t 33) (.c (.bool true)) (.t 43), some (25, true), [0, 1, 2, 3, 4, 5, 6, 7, 8, 9, 10, 11, 12, 13, 14, 15, 16, 17, 18, 19, 20]⟩,
    ⟨some 45, .pick (.t 25) (.t 44) (.c (.bool false)), none, [0, 1, 2, 3, 4, 5, 6, 7, 8, 9, 10, 11, 12, 13, 14, 15, 16, 17, 18, 19, 20, 21]⟩] [2, 4, 5, 10, 11, 12, 45])
   (.cond (.t 45) (.seq (.rgn true [⟨some 46, .mov (.t 2), none, []⟩,
    ⟨some 47, .mov (.t 5), none, []⟩,
    ⟨some 48, .bin .sub 0 (.t 47) (.c (.int .i64 (1))), none, [1]⟩,
    ⟨some 49, .mov (.t 2), none, []⟩,
    ⟨some 50, .mov (.t 5), none, []⟩,
    ⟨some 51, .bin .sub 0 (.t 50) (.c (.int .i64 (1))), none, [4]⟩,
    ⟨some 52, .isl 2 (.t 49) (.t 51), none, [3, 4, 5]⟩,
    ⟨some 53, .fadr 1 (.t 52), none, [3, 4, 5, 6]⟩,
    ⟨some 54, .load false 1 (.t 53), none, [3, 4, 5, 6, 7]⟩,
    ⟨some 55, .fadr 1 (.t 4), none, []⟩,
    ⟨some 56, .load false 1 (.t 55), none, [9]⟩,
    ⟨some 57, .mx (.t 54) [.t 56], none, [3, 4, 5, 6, 7, 8, 9, 10]⟩,
    ⟨some 58, .isl 2 (.t 46) (.t 48), none, [0, 1, 2, 3, 4, 5, 6, 7, 8, 9, 10, 11]⟩,
    ⟨some 59, .fadr 1 (.t 58), none, [0, 1, 2, 3, 4, 5, 6, 7, 8, 9, 10, 11, 12]⟩,
    ⟨none, .store 1 (.t 59) (.t 57), none, [0, 1, 2, 3, 4, 5, 6, 7, 8, 9, 10, 11, 12, 13]⟩] [2, 10, 11, 12])
   (.exit 1))
   (.skip)))
   (.rgn false [⟨some 60, .mov (.t 2), none, []⟩,
    ⟨some 61, .load true 2 (.t 4), none, []⟩,
    ⟨some 62, .bsl 2 [.int .i64 0, .int .i64 0] 1 [(0, .t 61)], none, []⟩,
    ⟨some 63, .app 2 (.t 60) (.t 62), none, []⟩,
    ⟨some 2, .mov (.t 63), none, []⟩] [2, 10, 11, 12]))))))
   (.rgn false [⟨some 64, .bin .add 0 (.t 12) (.c (.int .i64 (1))), none, []⟩,
    ⟨some 12, .mov (.t 64), none, []⟩] [2, 10, 11, 12])))))))
   (.seq (.rgn false [⟨some 65, .mov (.t 2), none, []⟩,
    ⟨some 2, .mov (.t 65), none, []⟩] [2])
   (.ret))))), none⟩
/-- slices.Clone[[]arbour/api.Range,arbour/api.Range] -/
def F38 : IFn := ⟨1, [.t 2],
   .skip, some (2, [.int .i64 0, .int .i64 0])⟩
/-- arbour/set.pick -/
def F39 : IFn := ⟨3, [.t 6],
   .seq (.rgn false [⟨some 6, .nil0 1, none, []⟩] [0, 1, 2, 6])
   (.seq (.seq (.rgn false [⟨some 9, .mov (.t 0), none, []⟩,
    ⟨some 10, .len false (.t 9), none, []⟩,
    ⟨some 11, .mov (.c (.int .i64 (0))), none, []⟩] [1, 2, 6, 9, 10, 11])
   (.block 0 (.loop [1, 2, 6, 9, 10, 11] (.seq (.rgn false [⟨some 12, .bin .lss 0 (.t 11) (.t 10), none, []⟩] [1, 2, 6, 9, 10, 11, 12])
   (.seq (.cond (.t 12) (.skip)
   (.exit 0))
   (.seq (.block 1 (.seq (.rgn false [⟨some 13, .isl 1 (.t 9) (.t 11), none, []⟩,
    ⟨some 14, .load false 1 (.t 13), none, []⟩,
    ⟨some 8, .mov (.t 14), none, []⟩] [1, 2, 6, 8, 9, 10, 11])
   (.seq (.rgn false [⟨some 15, .mov (.t 1), none, []⟩,
    ⟨some 16, .mov (.t 8), none, []⟩,
    ⟨some 17, .call 0 (.c (.fn 53 [])) [.t 15, .t 16], none, []⟩,
    ⟨some 18, .mov (.t 2), none, []⟩,
    ⟨some 19, .bin .eql 1 (.t 17) (.t 18), none, []⟩] [1, 2, 6, 8, 9, 10, 11, 19])
   (.cond (.t 19) (.rgn false [⟨some 20, .mov (.t 6), none, []⟩,
    ⟨some 21, .mov (.t 8), none, []⟩,
    ⟨some 22, .bsl 1 [.str ⟨#[]⟩] 1 [(0, .t 21)], none, []⟩,
    ⟨some 23, .app 1 (.t 20) (.t 22), none, []⟩,
    ⟨some 6, .mov (.t 23), none, []⟩] [1, 2, 6, 9, 10, 11])
   (.skip)))))
   (.rgn false [⟨some 24, .bin .add 0 (.t 11) (.c (.int .i64 (1))), none, []⟩,
    ⟨some 11, .mov (.t 24), none, []⟩] [1, 2, 6, 9, 10, 11])))))))
   (.seq (.rgn false [⟨some 25, .mov (.t 6), none, []⟩,
    ⟨some 6, .mov (.t 25), none, []⟩] [6])
   (.ret))), none⟩
/-- arbour/set.join -/
def F40 : IFn := ⟨2, [.t 4],
   .seq (.rgn false [⟨some 4, .nil0 1, none, []⟩] [0, 1])
   (.seq (.rgn false [⟨some 6, .mov (.t 0), none, []⟩,
    ⟨some 7, .call 2 (.c (.fn 54 [])) [.t 6], none, []⟩,
    ⟨some 8, .mov (.t 1), none, []⟩,
    ⟨some 9, .app 1 (.t 7) (.t 8), none, []⟩,
    ⟨some 5, .mov (.t 9), none, []⟩] [5])
   (.seq (.rgn false [⟨some 10, .mov (.t 5), none, []⟩,
    ⟨some 11, .call 1 (.c (.fn 55 [])) [.t 10], none, []⟩] [5])
   (.seq (.rgn false [⟨some 12, .mov (.t 5), none, []⟩,
    ⟨some 13, .call 1 (.c (.fn 56 [])) [.t 12], none, []⟩,
    ⟨some 4, .mov (.t 13), none, []⟩] [4])
   (.ret)))), none⟩
/-- arbour/arbourref03.Same -/
def F41 : IFn := ⟨2, [.t 4],
   .seq (.rgn false [⟨some 2, .box (.t 0), none, []⟩,
    ⟨some 3, .box (.t 1), none, []⟩,
    ⟨some 4, .mov (.c (.bool false)), none, []⟩] [2, 3])
   (.seq (.seq (.rgn false [⟨some 7, .fadr 0 (.t 2), none, []⟩,
    ⟨some 8, .load false 1 (.t 7), none, []⟩,
    ⟨some 9, .fadr 0 (.t 3), none, []⟩,
    ⟨some 10, .load false 1 (.t 9), none, []⟩,
    ⟨some 11, .bin .neq 1 (.t 8) (.t 10), none, []⟩,
    ⟨some 12, .mov (.t 11), none, []⟩,
    ⟨some 13, .fadr 2 (.t 2), some (12, false), []⟩,
    ⟨some 14, .load false 1 (.t 13), some (12, false), []⟩,
    ⟨some 15, .fadr 2 (.t 3), some (12, false), []⟩,
    ⟨some 16, .load false 1 (.t 15), some (12, false), []⟩,
    ⟨some 17, .bin .neq 1 (.t 14) (.t 16), some (12, false), []⟩,
    ⟨some 18, .pick (.t 12) (.c (.bool true)) (.t 17), none, []⟩,
    ⟨some 19, .mov (.t 18), none, []⟩,
    ⟨some 20, .fadr 1 (.t 2), some (19, false), []⟩,
    ⟨some 21, .load false 1 (.t 20), some (19, false), []⟩,
    ⟨some 22, .len false (.t 21), some (19, false), []⟩,
    ⟨some 23, .fadr 1 (.t 3), some (19, false), []⟩,
    ⟨some 24, .load false 1 (.t 23), some (19, false), []⟩,
    ⟨some 25, .len false (.t 24), some (19, false), []⟩,
    ⟨some 26, .bin .neq 0 (.t 22) (.t 25), some (19, false), []⟩,
    ⟨some 27, .pick (.t 19) (.c (.bool true)) (.t 26), none, []⟩,
    ⟨some 28, .mov (.t 27), none, []⟩,
    ⟨some 29, .fadr 3 (.t 2), some (28, false), []⟩,
    ⟨some 30, .load false 1 (.t 29), some (28, false), []⟩,
    ⟨some 31, .len false (.t 30), some (28, false), []⟩,
    ⟨some 32, .fadr 3 (.t 3), some (28, false), []⟩,
    ⟨some 33, .load false 1 (.t 32), some (28, false), []⟩,
    ⟨some 34, .len false (.t 33), some (28, false), []⟩,
    ⟨some 35, .bin .neq 0 (.t 31) (.t 34), some (28, false), []⟩,
    ⟨some 36, .pick (.t 28) (.c (.bool true)) (.t 35), none, []⟩] [2, 3, 36])
   (.cond (.t 36) (.seq (.rgn false [⟨some 4, .mov (.c (.bool false)), none, []⟩] [4])
   (.ret))
   (.skip)))
   (.seq (.seq (.rgn false [⟨some 5, .mov (.c (.int .i64 (0))), none, []⟩] [2, 3, 5])
   (.block 0 (.loop [2, 3, 5] (.seq (.seq (.rgn false [⟨some 37, .mov (.t 5), none, []⟩,
    ⟨some 38, .fadr 1 (.t 2), none, []⟩,
    ⟨some 39, .load false 1 (.t 38), none, []⟩,
    ⟨some 40, .len false (.t 39), none, []⟩,
    ⟨some 41, .bin .lss 0 (.t 37) (.t 40), none, []⟩] [2, 3, 5, 41])
   (.cond (.t 41) (.skip)
   (.exit 0)))
   (.seq (.block 1 (.seq (.rgn true [⟨some 44, .fadr 1 (.t 2), none, []⟩,
    ⟨some 45, .load false 1 (.t 44), none, [0]⟩,
    ⟨some 46, .mov (.t 5), none, []⟩,
    ⟨some 47, .isl 2 (.t 45) (.t 46), none, [0, 1, 2]⟩,
    ⟨some 48, .load true 2 (.t 47), none, [0, 1, 2, 3]⟩,
    ⟨some 49, .fadr 1 (.t 3), none, []⟩,
    ⟨some 50, .load false 1 (.t 49), none, [5]⟩,
    ⟨some 51, .mov (.t 5), none, []⟩,
    ⟨some 52, .isl 2 (.t 50) (.t 51), none, [5, 6, 7]⟩,
    ⟨some 53, .load true 2 (.t 52), none, [5, 6, 7, 8]⟩,
    ⟨some 54, .eqc true [0, 0] (.t 48) (.t 53), none, [0, 1, 2, 3, 4, 5, 6, 7, 8, 9]⟩] [2, 3, 5, 54])
   (.cond (.t 54) (.seq (.rgn false [⟨some 4, .mov (.c (.bool false)), none, []⟩] [4])
   (.ret))
   (.skip))))
   (.rgn false [⟨some 42, .mov (.t 5), none, []⟩,
    ⟨some 43, .bin .add 0 (.t 42) (.c (.int .i64 (1))), none, []⟩,
    ⟨some 5, .mov (.t 43), none, []⟩] [2, 3, 5]))))))
   (.seq (.seq (.rgn false [⟨some 6, .mov (.c (.int .i64 (0))), none, []⟩] [2, 3, 6])
   (.block 2 (.loop [2, 3, 6] (.seq (.seq (.rgn false [⟨some 55, .mov (.t 6), none, []⟩,
    ⟨some 56, .fadr 3 (.t 2), none, []⟩,
    ⟨some 57, .load false 1 (.t 56), none, []⟩,
    ⟨some 58, .len false (.t 57), none, []⟩,
    ⟨some 59, .bin .lss 0 (.t 55) (.t 58), none, []⟩] [2, 3, 6, 59])
   (.cond (.t 59) (.skip)
   (.exit 2)))
   (.seq (.block 3 (.seq (.rgn true [⟨some 62, .fadr 3 (.t 2), none, []⟩,
    ⟨some 63, .load false 1 (.t 62), none, [0]⟩,
    ⟨some 64, .mov (.t 6), none, []⟩,
    ⟨some 65, .isl 1 (.t 63) (.t 64), none, [0, 1, 2]⟩,
    ⟨some 66, .load false 1 (.t 65), none, [0, 1, 2, 3]⟩,
    ⟨some 67, .fadr 3 (.t 3), none, []⟩,
    ⟨some 68, .load false 1 (.t 67), none, [5]⟩,
    ⟨some 69, .mov (.t 6), none, []⟩,
    ⟨some 70, .isl 1 (.t 68) (.t 69), none, [5, 6, 7]⟩,
    ⟨some 71, .load false 1 (.t 70), none, [5, 6, 7, 8]⟩,
    ⟨some 72, .bin .neq 0 (.t 66) (.t 71), none, [0, 1, 2, 3, 4, 5, 6, 7, 8, 9]⟩] [2, 3, 6, 72])
   (.cond (.t 72) (.seq (.rgn false [⟨some 4, .mov (.c (.bool false)), none, []⟩] [4])
   (.ret))
   (.skip))))
   (.rgn false [⟨some 60, .mov (.t 6), none, []⟩,
    ⟨some 61, .bin .add 0 (.t 60) (.c (.int .i64 (1))), none, []⟩,
    ⟨some 6, .mov (.t 61), none, []⟩] [2, 3, 6]))))))
   (.seq (.rgn false [⟨some 4, .mov (.c (.bool true)), none, []⟩] [4])
   (.ret))))), none⟩
/-- arbour/box.All -/
def F42 : IFn := ⟨0, [.cell 0 true 16],
   .seq (.rgn false [⟨some 0, .alloc [.bool false, .nsl 2, .bool false, .nsl 1, .bool false, .nsl 2, .bool false, .nsl 1, .bool false, .nsl 2, .bool false, .nsl 1, .bool false, .nsl 2, .bool false, .nsl 1], none, []⟩] [0])
   (.seq (.seq (.rgn false [⟨some 2, .mov (.c (.int .i64 (0))), none, []⟩] [0, 2])
   (.block 0 (.loop [0, 2] (.seq (.rgn false [⟨some 3, .bin .lss 0 (.t 2) (.c (.int .i64 (4))), none, []⟩] [0, 2, 3])
   (.seq (.cond (.t 3) (.skip)
   (.exit 0))
   (.seq (.block 1 (.seq (.rgn false [⟨some 4, .mov (.t 2), none, []⟩,
    ⟨some 1, .mov (.t 4), none, []⟩] [0, 1, 2])
   (.rgn false [⟨some 5, .mov (.t 1), none, []⟩,
    ⟨some 6, .call 3 (.c (.fn 57 [])) [], none, []⟩,
    ⟨some 7, .iarr 4 4 (.t 0) (.t 5), none, []⟩,
    ⟨none, .store 4 (.t 7) (.t 6), none, []⟩] [0, 2])))
   (.rgn false [⟨some 8, .bin .add 0 (.t 2) (.c (.int .i64 (1))), none, []⟩,
    ⟨some 2, .mov (.t 8), none, []⟩] [0, 2])))))))
   (.seq (.rgn false [⟨some 9, .load true 16 (.t 0), none, []⟩,
    ⟨none, .store 16 (.t 0) (.t 9), none, []⟩] [0])
   (.ret))), none⟩
/-- arbour/arbourref01.Right -/
def F43 : IFn := ⟨1, [.t 2],
   .seq (.rgn false [⟨some 1, .box (.t 0), none, []⟩,
    ⟨some 2, .mov (.c (.bool false)), none, []⟩] [1])
   (.seq (.seq (.rgn false [⟨some 3, .fadr 0 (.t 1), none, []⟩,
    ⟨some 4, .load false 1 (.t 3), none, []⟩] [1, 4])
   (.block 0 (.seq (.rgn false [⟨some 6, .bin .eql 0 (.t 4) (.c (.int .i64 (0))), none, []⟩,
    ⟨some 5, .mov (.t 6), none, []⟩] [1, 4, 5])
   (.cond (.t 5) (.seq (.rgn false [⟨some 7, .fadr 1 (.t 1), none, []⟩,
    ⟨some 8, .load false 1 (.t 7), none, []⟩,
    ⟨some 9, .bin .eql 0 (.t 8) (.c (.int .i64 (0))), none, []⟩,
    ⟨some 10, .mov (.t 9), none, []⟩,
    ⟨some 11, .fadr 2 (.t 1), some (10, true), []⟩,
    ⟨some 12, .load false 1 (.t 11), some (10, true), []⟩,
    ⟨some 13, .bin .eql 0 (.t 12) (.c (.str ⟨#[]⟩)), some (10, true), []⟩,
    ⟨some 14, .pick (.t 10) (.t 13) (.c (.bool false)), none, []⟩,
    ⟨some 2, .mov (.t 14), none, []⟩] [2])
   (.ret))
   (.seq (.rgn false [⟨some 16, .bin .eql 0 (.t 4) (.c (.int .i64 (1))), none, []⟩,
    ⟨some 15, .mov (.t 16), none, []⟩] [1, 4, 15])
   (.cond (.t 15) (.seq (.rgn false [⟨some 17, .fadr 2 (.t 1), none, []⟩,
    ⟨some 18, .load false 1 (.t 17), none, []⟩,
    ⟨some 19, .bin .eql 0 (.t 18) (.c (.str ⟨#[]⟩)), none, []⟩,
    ⟨some 2, .mov (.t 19), none, []⟩] [2])
   (.ret))
   (.seq (.rgn false [⟨some 21, .bin .eql 0 (.t 4) (.c (.int .i64 (2))), none, []⟩,
    ⟨some 20, .mov (.t 21), none, []⟩] [1, 20])
   (.cond (.t 20) (.seq (.rgn false [⟨some 22, .fadr 1 (.t 1), none, []⟩,
    ⟨some 23, .load false 1 (.t 22), none, []⟩,
    ⟨some 24, .bin .eql 0 (.t 23) (.c (.int .i64 (0))), none, []⟩,
    ⟨some 25, .mov (.t 24), none, []⟩,
    ⟨some 26, .fadr 2 (.t 1), some (25, true), []⟩,
    ⟨some 27, .load false 1 (.t 26), some (25, true), []⟩,
    ⟨some 28, .len true (.t 27), some (25, true), []⟩,
    ⟨some 29, .bin .leq 0 (.t 28) (.c (.int .i64 (8))), some (25, true), []⟩,
    ⟨some 30, .pick (.t 25) (.t 29) (.c (.bool false)), none, []⟩,
    ⟨some 2, .mov (.t 30), none, []⟩] [2])
   (.ret))
   (.skip)))))))))
   (.seq (.rgn false [⟨some 2, .mov (.c (.bool false)), none, []⟩] [2])
   (.ret))), none⟩
/-- arbour/arbourref12.apart -/
def F44 : IFn := ⟨2, [.t 4],
   .seq (.rgn false [⟨some 4, .mov (.c (.int .u64 (0))), none, []⟩] [0, 1])
   (.seq (.seq (.rgn false [⟨some 5, .mov (.t 0), none, []⟩,
    ⟨some 6, .mov (.t 1), none, []⟩,
    ⟨some 7, .bin .gtr 0 (.t 5) (.t 6), none, []⟩] [0, 1, 7])
   (.cond (.t 7) (.rgn false [⟨some 8, .mov (.t 1), none, []⟩,
    ⟨some 9, .mov (.t 0), none, []⟩,
    ⟨some 0, .mov (.t 8), none, []⟩,
    ⟨some 1, .mov (.t 9), none, []⟩] [0, 1])
   (.skip)))
   (.seq (.rgn false [⟨some 10, .mov (.t 1), none, []⟩,
    ⟨some 11, .cvi .u64 (.t 10), none, []⟩,
    ⟨some 12, .mov (.t 0), none, []⟩,
    ⟨some 13, .cvi .u64 (.t 12), none, []⟩,
    ⟨some 14, .bin .sub 0 (.t 11) (.t 13), none, []⟩,
    ⟨some 4, .mov (.t 14), none, []⟩] [4])
   (.ret))), none⟩
/-- arbour/box.Right -/
def F45 : IFn := ⟨1, [.t 2],
   .seq (.rgn false [⟨some 1, .box (.t 0), none, []⟩,
    ⟨some 2, .mov (.c (.bool false)), none, []⟩] [1])
   (.seq (.seq (.rgn false [⟨some 5, .load true 16 (.t 1), none, []⟩,
    ⟨some 6, .mov (.c (.int .i64 (0))), none, []⟩] [5, 6])
   (.block 0 (.loop [5, 6] (.seq (.rgn false [⟨some 7, .bin .lss 0 (.t 6) (.c (.int .i64 (4))), none, []⟩] [5, 6, 7])
   (.seq (.cond (.t 7) (.skip)
   (.exit 0))
   (.seq (.block 1 (.seq (.rgn false [⟨some 8, .xarr true 4 4 (.t 5) (.t 6), none, []⟩,
    ⟨some 4, .alloc [.bool false, .nsl 2, .bool false, .nsl 1], none, []⟩,
    ⟨none, .store 4 (.t 4) (.t 8), none, []⟩] [4, 5, 6])
   (.seq (.rgn false [⟨some 9, .load true 4 (.t 4), none, []⟩,
    ⟨some 10, .call 0 (.c (.fn 58 [])) [.t 9], none, []⟩,
    ⟨some 11, .un .not (.t 10), none, []⟩] [5, 6, 11])
   (.cond (.t 11) (.seq (.rgn false [⟨some 2, .mov (.c (.bool false)), none, []⟩] [2])
   (.ret))
   (.skip)))))
   (.rgn false [⟨some 12, .bin .add 0 (.t 6) (.c (.int .i64 (1))), none, []⟩,
    ⟨some 6, .mov (.t 12), none, []⟩] [5, 6])))))))
   (.seq (.rgn false [⟨some 2, .mov (.c (.bool true)), none, []⟩] [2])
   (.ret))), none⟩
/-- arbour/box.Small -/
def F46 : IFn := ⟨1, [.t 2],
   .seq (.rgn false [⟨some 1, .box (.t 0), none, []⟩,
    ⟨some 2, .mov (.c (.bool false)), none, []⟩] [1])
   (.seq (.seq (.rgn false [⟨some 5, .load true 16 (.t 1), none, []⟩,
    ⟨some 6, .mov (.c (.int .i64 (0))), none, []⟩] [5, 6])
   (.block 0 (.loop [5, 6] (.seq (.rgn false [⟨some 7, .bin .lss 0 (.t 6) (.c (.int .i64 (4))), none, []⟩] [5, 6, 7])
   (.seq (.cond (.t 7) (.skip)
   (.exit 0))
   (.seq (.block 1 (.seq (.rgn false [⟨some 8, .xarr true 4 4 (.t 5) (.t 6), none, []⟩,
    ⟨some 4, .alloc [.bool false, .nsl 2, .bool false, .nsl 1], none, []⟩,
    ⟨none, .store 4 (.t 4) (.t 8), none, []⟩] [4, 5, 6])
   (.seq (.rgn false [⟨some 9, .load true 4 (.t 4), none, []⟩,
    ⟨some 10, .call 0 (.c (.fn 24 [])) [.t 9], none, []⟩,
    ⟨some 11, .un .not (.t 10), none, []⟩] [5, 6, 11])
   (.cond (.t 11) (.seq (.rgn false [⟨some 2, .mov (.c (.bool false)), none, []⟩] [2])
   (.ret))
   (.skip)))))
   (.rgn false [⟨some 12, .bin .add 0 (.t 6) (.c (.int .i64 (1))), none, []⟩,
    ⟨some 6, .mov (.t 12), none, []⟩] [5, 6])))))))
   (.seq (.rgn false [⟨some 2, .mov (.c (.bool true)), none, []⟩] [2])
   (.ret))), none⟩
/-- arbour/dnf.Tidy -/
def F47 : IFn := ⟨1, [.t 2],
   .seq (.rgn false [⟨some 2, .nil0 16, none, []⟩] [0, 2])
   (.seq (.seq (.rgn false [⟨some 6, .mov (.t 0), none, []⟩,
    ⟨some 7, .len false (.t 6), none, []⟩,
    ⟨some 8, .mov (.c (.int .i64 (0))), none, []⟩] [0, 2, 7, 8])
   (.block 0 (.loop [0, 2, 7, 8] (.seq (.rgn false [⟨some 9, .bin .lss 0 (.t 8) (.t 7), none, []⟩] [0, 2, 7, 8, 9])
   (.seq (.cond (.t 9) (.skip)
   (.exit 0))
   (.seq (.block 1 (.seq (.rgn false [⟨some 10, .mov (.t 8), none, []⟩,
    ⟨some 3, .mov (.t 10), none, []⟩] [0, 2, 3, 7, 8])
   (.seq (.seq (.rgn false [⟨some 11, .mov (.t 0), none, []⟩,
    ⟨some 12, .mov (.t 3), none, []⟩,
    ⟨some 13, .isl 16 (.t 11) (.t 12), none, []⟩,
    ⟨some 14, .load true 16 (.t 13), none, []⟩,
    ⟨some 15, .call 0 (.c (.fn 59 [])) [.t 14], none, []⟩] [0, 2, 3, 7, 8, 15])
   (.cond (.t 15) (.exit 1)
   (.skip)))
   (.seq (.rgn false [⟨some 4, .mov (.c (.bool false)), none, []⟩] [0, 2, 3, 4, 7, 8])
   (.seq (.seq (.rgn false [⟨some 16, .mov (.t 0), none, []⟩,
    ⟨some 17, .len false (.t 16), none, []⟩,
    ⟨some 18, .mov (.c (.int .i64 (0))), none, []⟩] [0, 2, 3, 4, 7, 8, 17, 18])
   (.block 2 (.loop [0, 2, 3, 4, 7, 8, 17, 18] (.seq (.rgn false [⟨some 19, .bin .lss 0 (.t 18) (.t 17), none, []⟩] [0, 2, 3, 4, 7, 8, 17, 18, 19])
   (.seq (.cond (.t 19) (.skip)
   (.exit 2))
   (.seq (.block 3 (.seq (.rgn false [⟨some 20, .mov (.t 18), none, []⟩,
    ⟨some 5, .mov (.t 20), none, []⟩] [0, 2, 3, 4, 5, 7, 8, 17, 18])
   (.rgn true [⟨some 21, .mov (.t 4), none, []⟩,
    ⟨some 22, .mov (.t 21), none, [0]⟩,
    ⟨some 23, .mov (.t 5), some (22, false), [0, 1]⟩,
    ⟨some 24, .mov (.t 3), some (22, false), [0, 1]⟩,
    ⟨some 25, .bin .neq 0 (.t 23) (.t 24), some (22, false), [0, 1, 2, 3]⟩,
    ⟨some 26, .mov (.t 25), some (22, false), [0, 1, 2, 3, 4]⟩,
    ⟨some 27, .mov (.t 0), some (26, true), [0, 1, 2, 3, 4, 5]⟩,
    ⟨some 28, .mov (.t 3), some (26, true), [0, 1, 2, 3, 4, 5]⟩,
    ⟨some 29, .isl 16 (.t 27) (.t 28), some (26, true), [0, 1, 2, 3, 4, 5, 6, 7]⟩,
    ⟨some 30, .mov (.t 0), some (26, true), [0, 1, 2, 3, 4, 5]⟩,
    ⟨some 31, .mov (.t 5), some (26, true), [0, 1, 2, 3, 4, 5]⟩,
    ⟨some 32, .isl 16 (.t 30) (.t 31), some (26, true), [0, 1, 2, 3, 4, 5, 9, 10]⟩,
    ⟨some 33, .mov (.t 5), some (26, true), [0, 1, 2, 3, 4, 5]⟩,
    ⟨some 34, .mov (.t 3), some (26, true), [0, 1, 2, 3, 4, 5]⟩,
    ⟨some 35, .bin .lss 0 (.t 33) (.t 34), some (26, true), [0, 1, 2, 3, 4, 5, 12, 13]⟩,
    ⟨some 36, .call 0 (.c (.fn 60 [])) [.t 29, .t 32, .t 35], some (26, true), [0, 1, 2, 3, 4, 5, 6, 7, 8, 9, 10, 11, 12, 13, 14]⟩,
    ⟨some 37, .pick (.t 26) (.t 36) (.c (.bool false)), some (22, false), [0, 1, 2, 3, 4, 5, 6, 7, 8, 9, 10, 11, 12, 13, 14, 15]⟩,
    ⟨some 38, .pick (.t 22) (.c (.bool true)) (.t 37), none, [0, 1, 2, 3, 4, 5, 6, 7, 8, 9, 10, 11, 12, 13, 14, 15, 16]⟩,
    ⟨some 4, .mov (.t 38), none, [0, 1, 2, 3, 4, 5, 6, 7, 8, 9, 10, 11, 12, 13, 14, 15, 16, 17]⟩] [0, 2, 3, 4, 7, 8, 17, 18])))
   (.rgn false [⟨some 39, .bin .add 0 (.t 18) (.c (.int .i64 (1))), none, []⟩,
    ⟨some 18, .mov (.t 39), none, []⟩] [0, 2, 3, 4, 7, 8, 17, 18])))))))
   (.seq (.rgn false [⟨some 40, .mov (.t 4), none, []⟩,
    ⟨some 41, .un .not (.t 40), none, []⟩] [0, 2, 3, 7, 8, 41])
   (.cond (.t 41) (.rgn false [⟨some 42, .mov (.t 2), none, []⟩,
    ⟨some 43, .mov (.t 0), none, []⟩,
    ⟨some 44, .mov (.t 3), none, []⟩,
    ⟨some 45, .isl 16 (.t 43) (.t 44), none, []⟩,
    ⟨some 46, .load true 16 (.t 45), none, []⟩,
    ⟨some 47, .bsl 16 [.bool false, .nsl 2, .bool false, .nsl 1, .bool false, .nsl 2, .bool false, .nsl 1, .bool false, .nsl 2, .bool false, .nsl 1, .bool false, .nsl 2, .bool false, .nsl 1] 1 [(0, .t 46)], none, []⟩,
    ⟨some 48, .app 16 (.t 42) (.t 47), none, []⟩,
    ⟨some 2, .mov (.t 48), none, []⟩] [0, 2, 7, 8])
   (.skip))))))))
   (.rgn false [⟨some 49, .bin .add 0 (.t 8) (.c (.int .i64 (1))), none, []⟩,
    ⟨some 8, .mov (.t 49), none, []⟩] [0, 2, 7, 8])))))))
   (.seq (.rgn false [⟨some 50, .mov (.t 2), none, []⟩,
    ⟨some 2, .mov (.t 50), none, []⟩] [2])
   (.ret))), none⟩
/-- arbour/arbourref03.InInts -/
def F48 : IFn := ⟨2, [.t 4],
   .seq (.rgn false [⟨some 4, .mov (.c (.bool false)), none, []⟩] [0, 1])
   (.seq (.seq (.rgn false [⟨some 5, .mov (.c (.int .i64 (0))), none, []⟩] [0, 1, 5])
   (.block 0 (.loop [0, 1, 5] (.seq (.seq (.rgn false [⟨some 6, .mov (.t 5), none, []⟩,
    ⟨some 7, .mov (.t 0), none, []⟩,
    ⟨some 8, .len false (.t 7), none, []⟩,
    ⟨some 9, .bin .lss 0 (.t 6) (.t 8), none, []⟩] [0, 1, 5, 9])
   (.cond (.t 9) (.skip)
   (.exit 0)))
   (.seq (.block 1 (.seq (.rgn false [⟨some 12, .mov (.t 0), none, []⟩,
    ⟨some 13, .mov (.t 5), none, []⟩,
    ⟨some 14, .isl 2 (.t 12) (.t 13), none, []⟩,
    ⟨some 15, .fadr 0 (.t 14), none, []⟩,
    ⟨some 16, .load false 1 (.t 15), none, []⟩,
    ⟨some 17, .mov (.t 1), none, []⟩,
    ⟨some 18, .bin .leq 0 (.t 16) (.t 17), none, []⟩,
    ⟨some 19, .mov (.t 18), none, []⟩,
    ⟨some 20, .mov (.t 1), some (19, true), []⟩,
    ⟨some 21, .mov (.t 0), some (19, true), []⟩,
    ⟨some 22, .mov (.t 5), some (19, true), []⟩,
    ⟨some 23, .isl 2 (.t 21) (.t 22), some (19, true), []⟩,
    ⟨some 24, .fadr 1 (.t 23), some (19, true), []⟩,
    ⟨some 25, .load false 1 (.t 24), some (19, true), []⟩,
    ⟨some 26, .bin .leq 0 (.t 20) (.t 25), some (19, true), []⟩,
    ⟨some 27, .pick (.t 19) (.t 26) (.c (.bool false)), none, []⟩] [0, 1, 5, 27])
   (.cond (.t 27) (.seq (.rgn false [⟨some 4, .mov (.c (.bool true)), none, []⟩] [4])
   (.ret))
   (.skip))))
   (.rgn false [⟨some 10, .mov (.t 5), none, []⟩,
    ⟨some 11, .bin .add 0 (.t 10) (.c (.int .i64 (1))), none, []⟩,
    ⟨some 5, .mov (.t 11), none, []⟩] [0, 1, 5]))))))
   (.seq (.rgn false [⟨some 4, .mov (.c (.bool false)), none, []⟩] [4])
   (.ret))), none⟩
/-- arbour/arbourref03.InStrs -/
def F49 : IFn := ⟨2, [.t 4],
   .seq (.rgn false [⟨some 4, .mov (.c (.bool false)), none, []⟩] [0, 1])
   (.seq (.seq (.rgn false [⟨some 5, .mov (.c (.int .i64 (0))), none, []⟩] [0, 1, 5])
   (.block 0 (.loop [0, 1, 5] (.seq (.seq (.rgn false [⟨some 6, .mov (.t 5), none, []⟩,
    ⟨some 7, .mov (.t 0), none, []⟩,
    ⟨some 8, .len false (.t 7), none, []⟩,
    ⟨some 9, .bin .lss 0 (.t 6) (.t 8), none, []⟩] [0, 1, 5, 9])
   (.cond (.t 9) (.skip)
   (.exit 0)))
   (.seq (.block 1 (.seq (.rgn false [⟨some 12, .mov (.t 0), none, []⟩,
    ⟨some 13, .mov (.t 5), none, []⟩,
    ⟨some 14, .isl 1 (.t 12) (.t 13), none, []⟩,
    ⟨some 15, .load false 1 (.t 14), none, []⟩,
    ⟨some 16, .mov (.t 1), none, []⟩,
    ⟨some 17, .bin .eql 0 (.t 15) (.t 16), none, []⟩] [0, 1, 5, 17])
   (.cond (.t 17) (.seq (.rgn false [⟨some 4, .mov (.c (.bool true)), none, []⟩] [4])
   (.ret))
   (.skip))))
   (.rgn false [⟨some 10, .mov (.t 5), none, []⟩,
    ⟨some 11, .bin .add 0 (.t 10) (.c (.int .i64 (1))), none, []⟩,
    ⟨some 5, .mov (.t 11), none, []⟩] [0, 1, 5]))))))
   (.seq (.rgn false [⟨some 4, .mov (.c (.bool false)), none, []⟩] [4])
   (.ret))), none⟩
/-- slices.SortFunc[[]arbour/api.Range,arbour/api.Range] -/
def F50 : IFn := ⟨2, [],
   .seq (.rgn false [⟨some 5, .mov (.t 0), none, []⟩,
    ⟨some 6, .len false (.t 5), none, []⟩,
    ⟨some 4, .mov (.t 6), none, []⟩] [0, 1, 4])
   (.rgn false [⟨some 7, .mov (.t 0), none, []⟩,
    ⟨some 8, .mov (.t 4), none, []⟩,
    ⟨some 9, .mov (.t 4), none, []⟩,
    ⟨some 10, .cvi .u64 (.t 9), none, []⟩,
    ⟨some 11, .call 0 (.c (.fn 62 [])) [.t 10], none, []⟩,
    ⟨some 12, .mov (.t 1), none, []⟩,
    ⟨some 13, .call 1 (.c (.fn 61 [])) [.t 7, .c (.int .i64 (0)), .t 8, .t 11, .t 12], none, []⟩] []), none⟩
/-- arbour/set.Ranges$1 -/
def F51 : IFn := ⟨2, [.t 4],
   .seq (.rgn false [⟨some 2, .box (.t 0), none, []⟩,
    ⟨some 3, .box (.t 1), none, []⟩,
    ⟨some 4, .mov (.c (.int .i64 (0))), none, []⟩] [2, 3])
   (.seq (.rgn false [⟨some 5, .fadr 0 (.t 2), none, []⟩,
    ⟨some 6, .load false 1 (.t 5), none, []⟩,
    ⟨some 7, .fadr 0 (.t 3), none, []⟩,
    ⟨some 8, .load false 1 (.t 7), none, []⟩,
    ⟨some 9, .call 0 (.c (.fn 52 [])) [.t 6, .t 8], none, []⟩,
    ⟨some 4, .mov (.t 9), none, []⟩] [4])
   (.ret)), none⟩
/-- cmp.Compare[int] -/
def F52 : IFn := ⟨2, [.t 4],
   .seq (.rgn false [⟨some 4, .mov (.c (.int .i64 (0))), none, []⟩] [0, 1])
   (.seq (.rgn false [⟨some 7, .mov (.t 0), none, []⟩,
    ⟨some 8, .call 0 (.c (.fn 63 [])) [.t 7], none, []⟩,
    ⟨some 5, .mov (.t 8), none, []⟩] [0, 1, 5])
   (.seq (.rgn false [⟨some 9, .mov (.t 1), none, []⟩,
    ⟨some 10, .call 0 (.c (.fn 63 [])) [.t 9], none, []⟩,
    ⟨some 6, .mov (.t 10), none, []⟩] [0, 1, 5, 6])
   (.seq (.seq (.rgn false [⟨some 11, .mov (.t 5), none, []⟩] [0, 1, 6, 11])
   (.cond (.t 11) (.seq (.seq (.rgn false [⟨some 12, .mov (.t 6), none, []⟩] [12])
   (.cond (.t 12) (.seq (.rgn false [⟨some 4, .mov (.c (.int .i64 (0))), none, []⟩] [4])
   (.ret))
   (.skip)))
   (.seq (.rgn false [⟨some 4, .mov (.c (.int .i64 (-1))), none, []⟩] [4])
   (.ret)))
   (.skip)))
   (.seq (.seq (.rgn false [⟨some 13, .mov (.t 6), none, []⟩] [0, 1, 13])
   (.cond (.t 13) (.seq (.rgn false [⟨some 4, .mov (.c (.int .i64 (1))), none, []⟩] [4])
   (.ret))
   (.skip)))
   (.seq (.seq (.rgn false [⟨some 14, .mov (.t 0), none, []⟩,
    ⟨some 15, .mov (.t 1), none, []⟩,
    ⟨some 16, .bin .lss 0 (.t 14) (.t 15), none, []⟩] [0, 1, 16])
   (.cond (.t 16) (.seq (.rgn false [⟨some 4, .mov (.c (.int .i64 (-1))), none, []⟩] [4])
   (.ret))
   (.skip)))
   (.seq (.seq (.rgn false [⟨some 17, .mov (.t 0), none, []⟩,
    ⟨some 18, .mov (.t 1), none, []⟩,
    ⟨some 19, .bin .gtr 0 (.t 17) (.t 18), none, []⟩] [19])
   (.cond (.t 19) (.seq (.rgn false [⟨some 4, .mov (.c (.int .i64 (1))), none, []⟩] [4])
   (.ret))
   (.skip)))
   (.seq (.rgn false [⟨some 4, .mov (.c (.int .i64 (0))), none, []⟩] [4])
   (.ret)))))))), none⟩
/-- slices.Contains[[]string,string] -/
def F53 : IFn := ⟨2, [.t 4],
   .seq (.rgn false [⟨some 4, .mov (.c (.bool false)), none, []⟩] [0, 1])
   (.seq (.rgn false [⟨some 5, .mov (.t 0), none, []⟩,
    ⟨some 6, .mov (.t 1), none, []⟩,
    ⟨some 7, .call 0 (.c (.fn 64 [])) [.t 5, .t 6], none, []⟩,
    ⟨some 8, .bin .geq 0 (.t 7) (.c (.int .i64 (0))), none, []⟩,
    ⟨some 4, .mov (.t 8), none, []⟩] [4])
   (.ret)), none⟩
/-- slices.Clone[[]string,string] -/
def F54 : IFn := ⟨1, [.t 2],
   .skip, some (1, [.str ⟨#[]⟩])⟩
/-- slices.Sort[[]string,string] -/
def F55 : IFn := ⟨1, [],
   .seq (.rgn false [⟨some 3, .mov (.t 0), none, []⟩,
    ⟨some 4, .len false (.t 3), none, []⟩,
    ⟨some 2, .mov (.t 4), none, []⟩] [0, 2])
   (.rgn false [⟨some 5, .mov (.t 0), none, []⟩,
    ⟨some 6, .mov (.t 2), none, []⟩,
    ⟨some 7, .mov (.t 2), none, []⟩,
    ⟨some 8, .cvi .u64 (.t 7), none, []⟩,
    ⟨some 9, .call 0 (.c (.fn 62 [])) [.t 8], none, []⟩,
    ⟨some 10, .call 1 (.c (.fn 65 [])) [.t 5, .c (.int .i64 (0)), .t 6, .t 9], none, []⟩] []), none⟩
/-- slices.Compact[[]string,string] -/
def F56 : IFn := ⟨1, [.t 2],
   .seq (.rgn false [⟨some 2, .nil0 1, none, []⟩] [0])
   (.seq (.seq (.rgn false [⟨some 6, .mov (.t 0), none, []⟩,
    ⟨some 7, .len false (.t 6), none, []⟩,
    ⟨some 8, .bin .lss 0 (.t 7) (.c (.int .i64 (2))), none, []⟩] [0, 8])
   (.cond (.t 8) (.seq (.rgn false [⟨some 9, .mov (.t 0), none, []⟩,
    ⟨some 2, .mov (.t 9), none, []⟩] [2])
   (.ret))
   (.skip)))
   (.seq (.seq (.rgn false [⟨some 3, .mov (.c (.int .i64 (1))), none, []⟩] [0, 3])
   (.block 0 (.loop [0, 3] (.seq (.seq (.rgn false [⟨some 10, .mov (.t 3), none, []⟩,
    ⟨some 11, .mov (.t 0), none, []⟩,
    ⟨some 12, .len false (.t 11), none, []⟩,
    ⟨some 13, .bin .lss 0 (.t 10) (.t 12), none, []⟩] [0, 3, 13])
   (.cond (.t 13) (.skip)
   (.exit 0)))
   (.seq (.block 1 (.seq (.rgn true [⟨some 16, .mov (.t 0), none, []⟩,
    ⟨some 17, .mov (.t 3), none, []⟩,
    ⟨some 18, .isl 1 (.t 16) (.t 17), none, [0, 1]⟩,
    ⟨some 19, .load false 1 (.t 18), none, [0, 1, 2]⟩,
    ⟨some 20, .mov (.t 0), none, []⟩,
    ⟨some 21, .mov (.t 3), none, []⟩,
    ⟨some 22, .bin .sub 0 (.t 21) (.c (.int .i64 (1))), none, [5]⟩,
    ⟨some 23, .isl 1 (.t 20) (.t 22), none, [4, 5, 6]⟩,
    ⟨some 24, .load false 1 (.t 23), none, [4, 5, 6, 7]⟩,
    ⟨some 25, .bin .eql 0 (.t 19) (.t 24), none, [0, 1, 2, 3, 4, 5, 6, 7, 8]⟩] [0, 3, 25])
   (.cond (.t 25) (.seq (.rgn false [⟨some 26, .mov (.t 0), none, []⟩,
    ⟨some 27, .mov (.t 3), none, []⟩,
    ⟨some 28, .slc 1 (.t 26) (some (.t 27)) none, none, []⟩,
    ⟨some 4, .mov (.t 28), none, []⟩] [0, 3, 4])
   (.seq (.seq (.rgn false [⟨some 5, .mov (.c (.int .i64 (1))), none, []⟩] [0, 3, 4, 5])
   (.block 2 (.loop [0, 3, 4, 5] (.seq (.seq (.rgn false [⟨some 29, .mov (.t 5), none, []⟩,
    ⟨some 30, .mov (.t 4), none, []⟩,
    ⟨some 31, .len false (.t 30), none, []⟩,
    ⟨some 32, .bin .lss 0 (.t 29) (.t 31), none, []⟩] [0, 3, 4, 5, 32])
   (.cond (.t 32) (.skip)
   (.exit 2)))
   (.seq (.block 3 (.seq (.rgn true [⟨some 35, .mov (.t 4), none, []⟩,
    ⟨some 36, .mov (.t 5), none, []⟩,
    ⟨some 37, .isl 1 (.t 35) (.t 36), none, [0, 1]⟩,
    ⟨some 38, .load false 1 (.t 37), none, [0, 1, 2]⟩,
    ⟨some 39, .mov (.t 4), none, []⟩,
    ⟨some 40, .mov (.t 5), none, []⟩,
    ⟨some 41, .bin .sub 0 (.t 40) (.c (.int .i64 (1))), none, [5]⟩,
    ⟨some 42, .isl 1 (.t 39) (.t 41), none, [4, 5, 6]⟩,
    ⟨some 43, .load false 1 (.t 42), none, [4, 5, 6, 7]⟩,
    ⟨some 44, .bin .neq 0 (.t 38) (.t 43), none, [0, 1, 2, 3, 4, 5, 6, 7, 8]⟩] [0, 3, 4, 5, 44])
   (.cond (.t 44) (.seq (.rgn false [⟨some 45, .mov (.t 0), none, []⟩,
    ⟨some 46, .mov (.t 3), none, []⟩,
    ⟨some 47, .mov (.t 4), none, []⟩,
    ⟨some 48, .mov (.t 5), none, []⟩,
    ⟨some 49, .isl 1 (.t 47) (.t 48), none, []⟩,
    ⟨some 50, .load false 1 (.t 49), none, []⟩,
    ⟨some 51, .isl 1 (.t 45) (.t 46), none, []⟩,
    ⟨none, .store 1 (.t 51) (.t 50), none, []⟩] [0, 3, 4, 5])
   (.rgn false [⟨some 52, .mov (.t 3), none, []⟩,
    ⟨some 53, .bin .add 0 (.t 52) (.c (.int .i64 (1))), none, []⟩,
    ⟨some 3, .mov (.t 53), none, []⟩] [0, 3, 4, 5]))
   (.skip))))
   (.rgn false [⟨some 33, .mov (.t 5), none, []⟩,
    ⟨some 34, .bin .add 0 (.t 33) (.c (.int .i64 (1))), none, []⟩,
    ⟨some 5, .mov (.t 34), none, []⟩] [0, 3, 4, 5]))))))
   (.seq (.rgn false [⟨some 54, .mov (.t 0), none, []⟩,
    ⟨some 55, .mov (.t 3), none, []⟩,
    ⟨some 56, .slc 1 (.t 54) (some (.t 55)) none, none, []⟩,
    ⟨none, .clr 1 [.str ⟨#[]⟩] (.t 56), none, []⟩] [0, 3])
   (.seq (.rgn false [⟨some 57, .mov (.t 0), none, []⟩,
    ⟨some 58, .mov (.t 3), none, []⟩,
    ⟨some 59, .slc 1 (.t 57) none (some (.t 58)), none, []⟩,
    ⟨some 2, .mov (.t 59), none, []⟩] [2])
   (.ret)))))
   (.skip))))
   (.rgn false [⟨some 14, .mov (.t 3), none, []⟩,
    ⟨some 15, .bin .add 0 (.t 14) (.c (.int .i64 (1))), none, []⟩,
    ⟨some 3, .mov (.t 15), none, []⟩] [0, 3]))))))
   (.seq (.rgn false [⟨some 60, .mov (.t 0), none, []⟩,
    ⟨some 2, .mov (.t 60), none, []⟩] [2])
   (.ret)))), none⟩
/-- arbour/set.All -/
def F57 : IFn := ⟨0, [.cell 0 true 4],
   .seq (.rgn false [⟨some 0, .alloc [.bool false, .nsl 2, .bool false, .nsl 1], none, []⟩] [0])
   (.seq (.rgn false [⟨some 1, .build [.int .i64 0, .int .i64 0] [(0, 1, .c (.int .i64 (-9223372036854775808))), (1, 1, .c (.int .i64 (9223372036854775807)))], none, []⟩,
    ⟨some 2, .bsl 2 [.int .i64 0, .int .i64 0] 1 [(0, .t 1)], none, []⟩,
    ⟨some 3, .build [.bool false, .nsl 2, .bool false, .nsl 1] [(0, 1, .c (.bool true)), (1, 1, .t 2), (2, 1, .c (.bool true))], none, []⟩,
    ⟨none, .store 4 (.t 0) (.t 3), none, []⟩] [0])
   (.ret)), none⟩
/-- arbour/set.Right -/
def F58 : IFn := ⟨1, [.t 2],
   .seq (.rgn false [⟨some 1, .box (.t 0), none, []⟩,
    ⟨some 2, .mov (.c (.bool false)), none, []⟩] [1])
   (.seq (.seq (.rgn false [⟨some 7, .fadr 1 (.t 1), none, []⟩,
    ⟨some 8, .load false 1 (.t 7), none, []⟩,
    ⟨some 9, .len false (.t 8), none, []⟩,
    ⟨some 10, .mov (.c (.int .i64 (0))), none, []⟩] [1, 8, 9, 10])
   (.block 0 (.loop [1, 8, 9, 10] (.seq (.rgn false [⟨some 11, .bin .lss 0 (.t 10) (.t 9), none, []⟩] [1, 8, 9, 10, 11])
   (.seq (.cond (.t 11) (.skip)
   (.exit 0))
   (.seq (.block 1 (.seq (.rgn false [⟨some 12, .mov (.t 10), none, []⟩,
    ⟨some 13, .isl 2 (.t 8) (.t 10), none, []⟩,
    ⟨some 14, .load true 2 (.t 13), none, []⟩,
    ⟨some 4, .alloc [.int .i64 0, .int .i64 0], none, []⟩,
    ⟨some 3, .mov (.t 12), none, []⟩,
    ⟨none, .store 2 (.t 4) (.t 14), none, []⟩] [1, 3, 4, 8, 9, 10])
   (.seq (.rgn true [⟨some 15, .fadr 0 (.t 4), none, []⟩,
    ⟨some 16, .load false 1 (.t 15), none, [0]⟩,
    ⟨some 17, .fadr 1 (.t 4), none, []⟩,
    ⟨some 18, .load false 1 (.t 17), none, [2]⟩,
    ⟨some 19, .bin .gtr 0 (.t 16) (.t 18), none, [0, 1, 2, 3]⟩,
    ⟨some 20, .mov (.t 19), none, [0, 1, 2, 3, 4]⟩,
    ⟨some 21, .mov (.t 3), some (20, false), [0, 1, 2, 3, 4, 5]⟩,
    ⟨some 22, .bin .gtr 0 (.t 21) (.c (.int .i64 (0))), some (20, false), [0, 1, 2, 3, 4, 5, 6]⟩,
    ⟨some 23, .mov (.t 22), some (20, false), [0, 1, 2, 3, 4, 5, 6, 7]⟩,
    ⟨some 24, .fadr 0 (.t 4), some (23, true), [0, 1, 2, 3, 4, 5, 6, 7, 8]⟩,
    ⟨some 25, .load false 1 (.t 24), some (23, true), [0, 1, 2, 3, 4, 5, 6, 7, 8, 9]⟩,
    ⟨some 26, .fadr 1 (.t 1), some (23, true), [0, 1, 2, 3, 4, 5, 6, 7, 8]⟩,
    ⟨some 27, .load false 1 (.t 26), some (23, true), [0, 1, 2, 3, 4, 5, 6, 7, 8, 11]⟩,
    ⟨some 28, .mov (.t 3), some (23, true), [0, 1, 2, 3, 4, 5, 6, 7, 8]⟩,
    ⟨some 29, .bin .sub 0 (.t 28) (.c (.int .i64 (1))), some (23, true), [0, 1, 2, 3, 4, 5, 6, 7, 8, 13]⟩,
    ⟨some 30, .isl 2 (.t 27) (.t 29), some (23, true), [0, 1, 2, 3, 4, 5, 6, 7, 8, 11, 12, 13, 14]⟩,
    ⟨some 31, .fadr 1 (.t 30), some (23, true), [0, 1, 2, 3, 4, 5, 6, 7, 8, 11, 12, 13, 14, 15]⟩,
    ⟨some 32, .load false 1 (.t 31), some (23, true), [0, 1, 2, 3, 4, 5, 6, 7, 8, 11, 12, 13, 14, 15, 16]⟩,
    ⟨some 33, .bin .leq 0 (.t 25) (.t 32), some (23, true), [0, 1, 2, 3, 4, 5, 6, 7, 8, 9, 10, 11, 12, 13, 14, 15, 16, 17]⟩,
    ⟨some 34, .mov (.t 33), some (23, true), [0, 1, 2, 3, 4, 5, 6, 7, 8, 9, 10, 11, 12, 13, 14, 15, 16, 17, 18]⟩,
    ⟨some 35, .fadr 0 (.t 4), some (34, false), [0, 1, 2, 3, 4, 5, 6, 7, 8, 9, 10, 11, 12, 13, 14, 15, 16, 17, 18, 19]⟩,
    ⟨some 36, .load false 1 (.t 35), some (34, false), [0, 1, 2, 3, 4, 5, 6, 7, 8, 9, 10, 11, 12, 13, 14, 15, 16, 17, 18, 19, 20]⟩,
    ⟨some 37, .bin .sub 0 (.t 36) (.c (.int .i64 (1))), some (34, false), [0, 1, 2, 3, 4, 5, 6, 7, 8, 9, 10, 11, 12, 13, 14, 15, 16, 17, 18, 19, 20, 21]⟩,
    ⟨some 38, .fadr 1 (.t 1), some (34, false), [0, 1, 2, 3, 4, 5, 6, 7, 8, 9, 10, 11, 12, 13, 14, 15, 16, 17, 18, 19]⟩,
    ⟨some 39, .load false 1 (.t 38), some (34, false), [0, 1, 2, 3, 4, 5, 6, 7, 8, 9, 10, 11, 12, 13, 14, 15, 16, 17, 18, 19, 23]⟩,
    ⟨some 40, .mov (.t 3), some (34, false), [0, 1, 2, 3, 4, 5, 6, 7, 8, 9, 10, 11, 12, 13, 14, 15, 16, 17, 18, 19]⟩,
    ⟨some 41, .bin .sub 0 (.t 40) (.c (.int .i64 (1))), some (34, false), [0, 1, 2, 3, 4, 5, 6, 7, 8, 9, 10, 11, 12, 13, 14, 15, 16, 17, 18, 19, 25]⟩,
    ⟨some 42, .isl 2 (.t 39) (.t 41), some (34, false), [0, 1, 2, 3, 4, 5, 6, 7, 8, 9, 10, 11, 12, 13, 14, 15, 16, 17, 18, 19, 23, 24, 25, 26]⟩,
    ⟨some 43, .fadr 1 (.t 42), some (34, false), [0, 1, 2, 3, 4, 5, 6, 7, 8, 9, 10, 11, 12, 13, 14, 15, 16, 17, 18, 19, 23, 24, 25, 26, 27]⟩,
    ⟨some 44, .load false 1 (.t 43), some (34, false), [0, 1, 2, 3, 4, 5, 6, 7, 8, 9, 10, 11, 12, 13, 14, 15, 16, 17, 18, 19, 23, 24, 25, 26, 27, 28]⟩,
    ⟨some 45, .bin .eql 0 (.t 37) (.t 44), some (34, false), [0, 1, 2, 3, 4, 5, 6, 7, 8, 9, 10, 11, 12, 13, 14, 15, 16, 17, 18, 19, 20, 21, 22, 23, 24, 25, 26, 27, 28, 29]⟩,
    ⟨some 46, .pick (.t 34) (.c (.bool true)) (.t 45), some (23, true), [0, 1, 2, 3, 4, 5, 6, 7, 8, 9, 10, 11, 12, 13, 14, 15, 16, 17, 18, 19, 20, 21, 22, 23, 24, 25, 26, 27, 28, 29, 30]⟩,
    ⟨some 47, .pick (.t 23) (.t 46) (.c (.bool false)), some (20, false), [0, 1, 2, 3, 4, 5, 6, 7, 8, 9, 10, 11, 12, 13, 14, 15, 16, 17, 18, 19, 20, 21, 22, 23, 24, 25, 26, 27, 28, 29, 30, 31]⟩,
    ⟨some 48, .pick (.t 20) (.c (.bool true)) (.t 47), none, [0, 1, 2, 3, 4, 5, 6, 7, 8, 9, 10, 11, 12, 13, 14, 15, 16, 17, 18, 19, 20, 21, 22, 23, 24, 25, 26, 27, 28, 29, 30, 31, 32]⟩] [1, 8, 9, 10, 48])
   (.cond (.t 48) (.seq (.rgn false [⟨some 2, .mov (.c (.bool false)), none, []⟩] [2])
   (.ret))
   (.skip)))))
   (.rgn false [⟨some 49, .bin .add 0 (.t 10) (.c (.int .i64 (1))), none, []⟩,
    ⟨some 10, .mov (.t 49), none, []⟩] [1, 8, 9, 10])))))))
   (.seq (.seq (.rgn false [⟨some 50, .fadr 3 (.t 1), none, []⟩,
    ⟨some 51, .load false 1 (.t 50), none, []⟩,
    ⟨some 52, .len false (.t 51), none, []⟩,
    ⟨some 53, .mov (.c (.int .i64 (0))), none, []⟩] [1, 51, 52, 53])
   (.block 2 (.loop [1, 51, 52, 53] (.seq (.rgn false [⟨some 54, .bin .lss 0 (.t 53) (.t 52), none, []⟩] [1, 51, 52, 53, 54])
   (.seq (.cond (.t 54) (.skip)
   (.exit 2))
   (.seq (.block 3 (.seq (.rgn false [⟨some 55, .mov (.t 53), none, []⟩,
    ⟨some 56, .isl 1 (.t 51) (.t 53), none, []⟩,
    ⟨some 57, .load false 1 (.t 56), none, []⟩,
    ⟨some 5, .mov (.t 55), none, []⟩,
    ⟨some 6, .mov (.t 57), none, []⟩] [1, 5, 6, 51, 52, 53])
   (.seq (.rgn false [⟨some 58, .mov (.t 6), none, []⟩,
    ⟨some 59, .len true (.t 58), none, []⟩,
    ⟨some 60, .bin .gtr 0 (.t 59) (.c (.int .i64 (8))), none, []⟩,
    ⟨some 61, .mov (.t 60), none, []⟩,
    ⟨some 62, .mov (.t 5), some (61, false), []⟩,
    ⟨some 63, .bin .gtr 0 (.t 62) (.c (.int .i64 (0))), some (61, false), []⟩,
    ⟨some 64, .mov (.t 63), some (61, false), []⟩,
    ⟨some 65, .fadr 3 (.t 1), some (64, true), []⟩,
    ⟨some 66, .load false 1 (.t 65), some (64, true), []⟩,
    ⟨some 67, .mov (.t 5), some (64, true), []⟩,
    ⟨some 68, .bin .sub 0 (.t 67) (.c (.int .i64 (1))), some (64, true), []⟩,
    ⟨some 69, .isl 1 (.t 66) (.t 68), some (64, true), []⟩,
    ⟨some 70, .load false 1 (.t 69), some (64, true), []⟩,
    ⟨some 71, .mov (.t 6), some (64, true), []⟩,
    ⟨some 72, .bin .geq 0 (.t 70) (.t 71), some (64, true), []⟩,
    ⟨some 73, .pick (.t 64) (.t 72) (.c (.bool false)), some (61, false), []⟩,
    ⟨some 74, .pick (.t 61) (.c (.bool true)) (.t 73), none, []⟩] [1, 51, 52, 53, 74])
   (.cond (.t 74) (.seq (.rgn false [⟨some 2, .mov (.c (.bool false)), none, []⟩] [2])
   (.ret))
   (.skip)))))
   (.rgn false [⟨some 75, .bin .add 0 (.t 53) (.c (.int .i64 (1))), none, []⟩,
    ⟨some 53, .mov (.t 75), none, []⟩] [1, 51, 52, 53])))))))
   (.seq (.rgn false [⟨some 2, .mov (.c (.bool true)), none, []⟩] [2])
   (.ret)))), none⟩
/-- arbour/box.Empty -/
def F59 : IFn := ⟨1, [.t 2],
   .seq (.rgn false [⟨some 1, .box (.t 0), none, []⟩,
    ⟨some 2, .mov (.c (.bool false)), none, []⟩] [1])
   (.seq (.seq (.rgn false [⟨some 5, .load true 16 (.t 1), none, []⟩,
    ⟨some 6, .mov (.c (.int .i64 (0))), none, []⟩] [5, 6])
   (.block 0 (.loop [5, 6] (.seq (.rgn false [⟨some 7, .bin .lss 0 (.t 6) (.c (.int .i64 (4))), none, []⟩] [5, 6, 7])
   (.seq (.cond (.t 7) (.skip)
   (.exit 0))
   (.seq (.block 1 (.seq (.rgn false [⟨some 8, .xarr true 4 4 (.t 5) (.t 6), none, []⟩,
    ⟨some 4, .alloc [.bool false, .nsl 2, .bool false, .nsl 1], none, []⟩,
    ⟨none, .store 4 (.t 4) (.t 8), none, []⟩] [4, 5, 6])
   (.seq (.rgn false [⟨some 9, .load true 4 (.t 4), none, []⟩,
    ⟨some 10, .call 0 (.c (.fn 66 [])) [.t 9], none, []⟩] [5, 6, 10])
   (.cond (.t 10) (.seq (.rgn false [⟨some 2, .mov (.c (.bool true)), none, []⟩] [2])
   (.ret))
   (.skip)))))
   (.rgn false [⟨some 11, .bin .add 0 (.t 6) (.c (.int .i64 (1))), none, []⟩,
    ⟨some 6, .mov (.t 11), none, []⟩] [5, 6])))))))
   (.seq (.rgn false [⟨some 2, .mov (.c (.bool false)), none, []⟩] [2])
   (.ret))), none⟩
/-- slices.pdqsortCmpFunc[arbour/api.Range] -/
def F61 : IFn := ⟨5, [],
   .seq (.rgn false [⟨some 10, .mov (.c (.bool true)), none, []⟩] [0, 1, 2, 3, 4, 10])
   (.seq (.rgn false [⟨some 11, .mov (.c (.bool true)), none, []⟩] [0, 1, 2, 3, 4, 10, 11])
   (.block 0 (.loop [0, 1, 2, 3, 4, 10, 11] (.block 1 (.seq (.rgn false [⟨some 21, .mov (.t 2), none, []⟩,
    ⟨some 22, .mov (.t 1), none, []⟩,
    ⟨some 23, .bin .sub 0 (.t 21) (.t 22), none, []⟩,
    ⟨some 12, .mov (.t 23), none, []⟩] [0, 1, 2, 3, 4, 10, 11, 12])
   (.seq (.seq (.rgn false [⟨some 24, .mov (.t 12), none, []⟩,
    ⟨some 25, .bin .leq 0 (.t 24) (.c (.int .i64 (12))), none, []⟩] [0, 1, 2, 3, 4, 10, 11, 12, 25])
   (.cond (.t 25) (.seq (.rgn false [⟨some 26, .mov (.t 0), none, []⟩,
    ⟨some 27, .mov (.t 1), none, []⟩,
    ⟨some 28, .mov (.t 2), none, []⟩,
    ⟨some 29, .mov (.t 4), none, []⟩,
    ⟨some 30, .call 1 (.c (.fn 68 [])) [.t 26, .t 27, .t 28, .t 29], none, []⟩] [])
   (.ret))
   (.skip)))
   (.seq (.seq (.rgn false [⟨some 31, .mov (.t 3), none, []⟩,
    ⟨some 32, .bin .eql 0 (.t 31) (.c (.int .i64 (0))), none, []⟩] [0, 1, 2, 3, 4, 10, 11, 12, 32])
   (.cond (.t 32) (.seq (.rgn false [⟨some 33, .mov (.t 0), none, []⟩,
    ⟨some 34, .mov (.t 1), none, []⟩,
    ⟨some 35, .mov (.t 2), none, []⟩,
    ⟨some 36, .mov (.t 4), none, []⟩,
    ⟨some 37, .call 1 (.c (.fn 80 [])) [.t 33, .t 34, .t 35, .t 36], none, []⟩] [])
   (.ret))
   (.skip)))
   (.seq (.seq (.rgn false [⟨some 38, .mov (.t 10), none, []⟩,
    ⟨some 39, .un .not (.t 38), none, []⟩] [0, 1, 2, 3, 4, 10, 11, 12, 39])
   (.cond (.t 39) (.seq (.rgn false [⟨some 40, .mov (.t 0), none, []⟩,
    ⟨some 41, .mov (.t 1), none, []⟩,
    ⟨some 42, .mov (.t 2), none, []⟩,
    ⟨some 43, .mov (.t 4), none, []⟩,
    ⟨some 44, .call 1 (.c (.fn 79 [])) [.t 40, .t 41, .t 42, .t 43], none, []⟩] [0, 1, 2, 3, 4, 10, 11, 12])
   (.rgn false [⟨some 45, .mov (.t 3), none, []⟩,
    ⟨some 46, .bin .sub 0 (.t 45) (.c (.int .i64 (1))), none, []⟩,
    ⟨some 3, .mov (.t 46), none, []⟩] [0, 1, 2, 3, 4, 10, 11, 12]))
   (.skip)))
   (.seq (.rgn false [⟨some 48, .mov (.t 0), none, []⟩,
    ⟨some 49, .mov (.t 1), none, []⟩,
    ⟨some 50, .mov (.t 2), none, []⟩,
    ⟨some 51, .mov (.t 4), none, []⟩,
    ⟨some 52, .call 1 (.c (.fn 78 [])) [.t 48, .t 49, .t 50, .t 51], none, []⟩,
    ⟨some 47, .mov (.t 52), none, []⟩,
    ⟨some 53, .ext (.t 47) 0, none, []⟩,
    ⟨some 54, .ext (.t 47) 1, none, []⟩,
    ⟨some 13, .mov (.t 53), none, []⟩,
    ⟨some 14, .mov (.t 54), none, []⟩] [0, 1, 2, 3, 4, 10, 11, 12, 13, 14])
   (.seq (.seq (.rgn false [⟨some 55, .mov (.t 14), none, []⟩,
    ⟨some 56, .bin .eql 0 (.t 55) (.c (.int .i64 (2))), none, []⟩] [0, 1, 2, 3, 4, 10, 11, 12, 13, 14, 56])
   (.cond (.t 56) (.seq (.rgn false [⟨some 57, .mov (.t 0), none, []⟩,
    ⟨some 58, .mov (.t 1), none, []⟩,
    ⟨some 59, .mov (.t 2), none, []⟩,
    ⟨some 60, .mov (.t 4), none, []⟩,
    ⟨some 61, .call 1 (.c (.fn 77 [])) [.t 57, .t 58, .t 59, .t 60], none, []⟩] [0, 1, 2, 3, 4, 10, 11, 12, 13])
   (.seq (.rgn false [⟨some 62, .mov (.t 2), none, []⟩,
    ⟨some 63, .bin .sub 0 (.t 62) (.c (.int .i64 (1))), none, []⟩,
    ⟨some 64, .mov (.t 13), none, []⟩,
    ⟨some 65, .mov (.t 1), none, []⟩,
    ⟨some 66, .bin .sub 0 (.t 64) (.t 65), none, []⟩,
    ⟨some 67, .bin .sub 0 (.t 63) (.t 66), none, []⟩,
    ⟨some 13, .mov (.t 67), none, []⟩] [0, 1, 2, 3, 4, 10, 11, 12, 13])
   (.rgn false [⟨some 14, .mov (.c (.int .i64 (1))), none, []⟩] [0, 1, 2, 3, 4, 10, 11, 12, 13, 14])))
   (.skip)))
   (.seq (.seq (.rgn false [⟨some 68, .mov (.t 10), none, []⟩,
    ⟨some 69, .mov (.t 68), none, []⟩,
    ⟨some 70, .mov (.t 11), some (69, true), []⟩,
    ⟨some 71, .pick (.t 69) (.t 70) (.c (.bool false)), none, []⟩,
    ⟨some 72, .mov (.t 71), none, []⟩,
    ⟨some 73, .mov (.t 14), some (72, true), []⟩,
    ⟨some 74, .bin .eql 0 (.t 73) (.c (.int .i64 (1))), some (72, true), []⟩,
    ⟨some 75, .pick (.t 72) (.t 74) (.c (.bool false)), none, []⟩] [0, 1, 2, 3, 4, 10, 11, 12, 13, 75])
   (.cond (.t 75) (.seq (.rgn false [⟨some 76, .mov (.t 0), none, []⟩,
    ⟨some 77, .mov (.t 1), none, []⟩,
    ⟨some 78, .mov (.t 2), none, []⟩,
    ⟨some 79, .mov (.t 4), none, []⟩,
    ⟨some 80, .call 1 (.c (.fn 76 [])) [.t 76, .t 77, .t 78, .t 79], none, []⟩] [0, 1, 2, 3, 4, 10, 11, 12, 13, 80])
   (.cond (.t 80) (.ret)
   (.skip)))
   (.skip)))
   (.seq (.seq (.rgn true [⟨some 81, .mov (.t 1), none, []⟩,
    ⟨some 82, .bin .gtr 0 (.t 81) (.c (.int .i64 (0))), none, [0]⟩,
    ⟨some 83, .mov (.t 82), none, [0, 1]⟩,
    ⟨some 84, .mov (.t 4), some (83, true), [0, 1, 2]⟩,
    ⟨some 85, .mov (.t 0), some (83, true), [0, 1, 2]⟩,
    ⟨some 86, .mov (.t 1), some (83, true), [0, 1, 2]⟩,
    ⟨some 87, .bin .sub 0 (.t 86) (.c (.int .i64 (1))), some (83, true), [0, 1, 2, 5]⟩,
    ⟨some 88, .isl 2 (.t 85) (.t 87), some (83, true), [0, 1, 2, 4, 5, 6]⟩,
    ⟨some 89, .load true 2 (.t 88), some (83, true), [0, 1, 2, 4, 5, 6, 7]⟩,
    ⟨some 90, .mov (.t 0), some (83, true), [0, 1, 2]⟩,
    ⟨some 91, .mov (.t 13), some (83, true), [0, 1, 2]⟩,
    ⟨some 92, .isl 2 (.t 90) (.t 91), some (83, true), [0, 1, 2, 9, 10]⟩,
    ⟨some 93, .load true 2 (.t 92), some (83, true), [0, 1, 2, 9, 10, 11]⟩,
    ⟨some 94, .call 0 (.t 84) [.t 89, .t 93], some (83, true), [0, 1, 2, 3, 4, 5, 6, 7, 8, 9, 10, 11, 12]⟩,
    ⟨some 95, .bin .lss 0 (.t 94) (.c (.int .i64 (0))), some (83, true), [0, 1, 2, 3, 4, 5, 6, 7, 8, 9, 10, 11, 12, 13]⟩,
    ⟨some 96, .un .not (.t 95), some (83, true), [0, 1, 2, 3, 4, 5, 6, 7, 8, 9, 10, 11, 12, 13, 14]⟩,
    ⟨some 97, .pick (.t 83) (.t 96) (.c (.bool false)), none, [0, 1, 2, 3, 4, 5, 6, 7, 8, 9, 10, 11, 12, 13, 14, 15]⟩] [0, 1, 2, 3, 4, 10, 11, 12, 13, 97])
   (.cond (.t 97) (.seq (.rgn false [⟨some 98, .mov (.t 0), none, []⟩,
    ⟨some 99, .mov (.t 1), none, []⟩,
    ⟨some 100, .mov (.t 2), none, []⟩,
    ⟨some 101, .mov (.t 13), none, []⟩,
    ⟨some 102, .mov (.t 4), none, []⟩,
    ⟨some 103, .call 1 (.c (.fn 75 [])) [.t 98, .t 99, .t 100, .t 101, .t 102], none, []⟩,
    ⟨some 15, .mov (.t 103), none, []⟩] [0, 2, 3, 4, 10, 11, 15])
   (.seq (.rgn false [⟨some 104, .mov (.t 15), none, []⟩,
    ⟨some 1, .mov (.t 104), none, []⟩] [0, 1, 2, 3, 4, 10, 11])
   (.exit 1)))
   (.skip)))
   (.seq (.rgn false [⟨some 106, .mov (.t 0), none, []⟩,
    ⟨some 107, .mov (.t 1), none, []⟩,
    ⟨some 108, .mov (.t 2), none, []⟩,
    ⟨some 109, .mov (.t 13), none, []⟩,
    ⟨some 110, .mov (.t 4), none, []⟩,
    ⟨some 111, .call 1 (.c (.fn 74 [])) [.t 106, .t 107, .t 108, .t 109, .t 110], none, []⟩,
    ⟨some 105, .mov (.t 111), none, []⟩,
    ⟨some 112, .ext (.t 105) 0, none, []⟩,
    ⟨some 113, .ext (.t 105) 1, none, []⟩,
    ⟨some 16, .mov (.t 112), none, []⟩,
    ⟨some 17, .mov (.t 113), none, []⟩] [0, 1, 2, 3, 4, 12, 16, 17])
   (.seq (.rgn false [⟨some 114, .mov (.t 17), none, []⟩,
    ⟨some 11, .mov (.t 114), none, []⟩] [0, 1, 2, 3, 4, 11, 12, 16])
   (.seq (.rgn false [⟨some 115, .mov (.t 16), none, []⟩,
    ⟨some 116, .mov (.t 1), none, []⟩,
    ⟨some 117, .bin .sub 0 (.t 115) (.t 116), none, []⟩,
    ⟨some 118, .mov (.t 2), none, []⟩,
    ⟨some 119, .mov (.t 16), none, []⟩,
    ⟨some 120, .bin .sub 0 (.t 118) (.t 119), none, []⟩,
    ⟨some 18, .mov (.t 117), none, []⟩,
    ⟨some 19, .mov (.t 120), none, []⟩] [0, 1, 2, 3, 4, 11, 12, 16, 18, 19])
   (.seq (.rgn false [⟨some 121, .mov (.t 12), none, []⟩,
    ⟨some 122, .bin .quo 0 (.t 121) (.c (.int .i64 (8))), none, []⟩,
    ⟨some 20, .mov (.t 122), none, []⟩] [0, 1, 2, 3, 4, 11, 16, 18, 19, 20])
   (.seq (.rgn false [⟨some 123, .mov (.t 18), none, []⟩,
    ⟨some 124, .mov (.t 19), none, []⟩,
    ⟨some 125, .bin .lss 0 (.t 123) (.t 124), none, []⟩] [0, 1, 2, 3, 4, 11, 16, 18, 19, 20, 125])
   (.cond (.t 125) (.seq (.rgn false [⟨some 126, .mov (.t 18), none, []⟩,
    ⟨some 127, .mov (.t 20), none, []⟩,
    ⟨some 128, .bin .geq 0 (.t 126) (.t 127), none, []⟩,
    ⟨some 10, .mov (.t 128), none, []⟩] [0, 1, 2, 3, 4, 10, 11, 16])
   (.seq (.rgn false [⟨some 129, .mov (.t 0), none, []⟩,
    ⟨some 130, .mov (.t 1), none, []⟩,
    ⟨some 131, .mov (.t 16), none, []⟩,
    ⟨some 132, .mov (.t 3), none, []⟩,
    ⟨some 133, .mov (.t 4), none, []⟩,
    ⟨some 134, .call 1 (.c (.fn 61 [])) [.t 129, .t 130, .t 131, .t 132, .t 133], none, []⟩] [0, 2, 3, 4, 10, 11, 16])
   (.rgn false [⟨some 135, .mov (.t 16), none, []⟩,
    ⟨some 136, .bin .add 0 (.t 135) (.c (.int .i64 (1))), none, []⟩,
    ⟨some 1, .mov (.t 136), none, []⟩] [0, 1, 2, 3, 4, 10, 11])))
   (.seq (.rgn false [⟨some 137, .mov (.t 19), none, []⟩,
    ⟨some 138, .mov (.t 20), none, []⟩,
    ⟨some 139, .bin .geq 0 (.t 137) (.t 138), none, []⟩,
    ⟨some 10, .mov (.t 139), none, []⟩] [0, 1, 2, 3, 4, 10, 11, 16])
   (.seq (.rgn false [⟨some 140, .mov (.t 0), none, []⟩,
    ⟨some 141, .mov (.t 16), none, []⟩,
    ⟨some 142, .bin .add 0 (.t 141) (.c (.int .i64 (1))), none, []⟩,
    ⟨some 143, .mov (.t 2), none, []⟩,
    ⟨some 144, .mov (.t 3), none, []⟩,
    ⟨some 145, .mov (.t 4), none, []⟩,
    ⟨some 146, .call 1 (.c (.fn 61 [])) [.t 140, .t 142, .t 143, .t 144, .t 145], none, []⟩] [0, 1, 3, 4, 10, 11, 16])
   (.rgn false [⟨some 147, .mov (.t 16), none, []⟩,
    ⟨some 2, .mov (.t 147), none, []⟩] [0, 1, 2, 3, 4, 10, 11]))))))))))))))))))))), none⟩
/-- math/bits.Len -/
def F62 : IFn := ⟨1, [.t 2],
   .seq (.rgn false [⟨some 2, .mov (.c (.int .i64 (0))), none, []⟩] [0])
   (.seq (.cond (.c (.bool false)) (.seq (.rgn false [⟨some 3, .mov (.t 0), none, []⟩,
    ⟨some 4, .cvi .u32 (.t 3), none, []⟩,
    ⟨some 5, .call 0 (.c (.fn 69 [])) [.t 4], none, []⟩,
    ⟨some 2, .mov (.t 5), none, []⟩] [2])
   (.ret))
   (.skip))
   (.seq (.rgn false [⟨some 6, .mov (.t 0), none, []⟩,
    ⟨some 7, .call 0 (.c (.fn 70 [])) [.t 6], none, []⟩,
    ⟨some 2, .mov (.t 7), none, []⟩] [2])
   (.ret))), none⟩
/-- cmp.isNaN[int] -/
def F63 : IFn := ⟨1, [.t 2],
   .seq (.rgn false [⟨some 2, .mov (.c (.bool false)), none, []⟩] [0])
   (.seq (.rgn false [⟨some 3, .mov (.t 0), none, []⟩,
    ⟨some 4, .mov (.t 0), none, []⟩,
    ⟨some 5, .bin .neq 0 (.t 3) (.t 4), none, []⟩,
    ⟨some 2, .mov (.t 5), none, []⟩] [2])
   (.ret)), none⟩
/-- slices.Index[[]string,string] -/
def F64 : IFn := ⟨2, [.t 4],
   .seq (.rgn false [⟨some 4, .mov (.c (.int .i64 (0))), none, []⟩] [0, 1])
   (.seq (.seq (.rgn false [⟨some 6, .mov (.t 0), none, []⟩,
    ⟨some 7, .len false (.t 6), none, []⟩,
    ⟨some 8, .mov (.c (.int .i64 (0))), none, []⟩] [0, 1, 7, 8])
   (.block 0 (.loop [0, 1, 7, 8] (.seq (.rgn false [⟨some 9, .bin .lss 0 (.t 8) (.t 7), none, []⟩] [0, 1, 7, 8, 9])
   (.seq (.cond (.t 9) (.skip)
   (.exit 0))
   (.seq (.block 1 (.seq (.rgn false [⟨some 10, .mov (.t 8), none, []⟩,
    ⟨some 5, .mov (.t 10), none, []⟩] [0, 1, 5, 7, 8])
   (.seq (.rgn false [⟨some 11, .mov (.t 1), none, []⟩,
    ⟨some 12, .mov (.t 0), none, []⟩,
    ⟨some 13, .mov (.t 5), none, []⟩,
    ⟨some 14, .isl 1 (.t 12) (.t 13), none, []⟩,
    ⟨some 15, .load false 1 (.t 14), none, []⟩,
    ⟨some 16, .bin .eql 0 (.t 11) (.t 15), none, []⟩] [0, 1, 5, 7, 8, 16])
   (.cond (.t 16) (.seq (.rgn false [⟨some 17, .mov (.t 5), none, []⟩,
    ⟨some 4, .mov (.t 17), none, []⟩] [4])
   (.ret))
   (.skip)))))
   (.rgn false [⟨some 18, .bin .add 0 (.t 8) (.c (.int .i64 (1))), none, []⟩,
    ⟨some 8, .mov (.t 18), none, []⟩] [0, 1, 7, 8])))))))
   (.seq (.rgn false [⟨some 4, .mov (.c (.int .i64 (-1))), none, []⟩] [4])
   (.ret))), none⟩
/-- slices.pdqsortOrdered[string] -/
def F65 : IFn := ⟨4, [],
   .seq (.rgn false [⟨some 8, .mov (.c (.bool true)), none, []⟩] [0, 1, 2, 3, 8])
   (.seq (.rgn false [⟨some 9, .mov (.c (.bool true)), none, []⟩] [0, 1, 2, 3, 8, 9])
   (.block 0 (.loop [0, 1, 2, 3, 8, 9] (.block 1 (.seq (.rgn false [⟨some 19, .mov (.t 2), none, []⟩,
    ⟨some 20, .mov (.t 1), none, []⟩,
    ⟨some 21, .bin .sub 0 (.t 19) (.t 20), none, []⟩,
    ⟨some 10, .mov (.t 21), none, []⟩] [0, 1, 2, 3, 8, 9, 10])
   (.seq (.seq (.rgn false [⟨some 22, .mov (.t 10), none, []⟩,
    ⟨some 23, .bin .leq 0 (.t 22) (.c (.int .i64 (12))), none, []⟩] [0, 1, 2, 3, 8, 9, 10, 23])
   (.cond (.t 23) (.seq (.rgn false [⟨some 24, .mov (.t 0), none, []⟩,
    ⟨some 25, .mov (.t 1), none, []⟩,
    ⟨some 26, .mov (.t 2), none, []⟩,
    ⟨some 27, .call 1 (.c (.fn 71 [])) [.t 24, .t 25, .t 26], none, []⟩] [])
   (.ret))
   (.skip)))
   (.seq (.seq (.rgn false [⟨some 28, .mov (.t 3), none, []⟩,
    ⟨some 29, .bin .eql 0 (.t 28) (.c (.int .i64 (0))), none, []⟩] [0, 1, 2, 3, 8, 9, 10, 29])
   (.cond (.t 29) (.seq (.rgn false [⟨some 30, .mov (.t 0), none, []⟩,
    ⟨some 31, .mov (.t 1), none, []⟩,
    ⟨some 32, .mov (.t 2), none, []⟩,
    ⟨some 33, .call 1 (.c (.fn 87 [])) [.t 30, .t 31, .t 32], none, []⟩] [])
   (.ret))
   (.skip)))
   (.seq (.seq (.rgn false [⟨some 34, .mov (.t 8), none, []⟩,
    ⟨some 35, .un .not (.t 34), none, []⟩] [0, 1, 2, 3, 8, 9, 10, 35])
   (.cond (.t 35) (.seq (.rgn false [⟨some 36, .mov (.t 0), none, []⟩,
    ⟨some 37, .mov (.t 1), none, []⟩,
    ⟨some 38, .mov (.t 2), none, []⟩,
    ⟨some 39, .call 1 (.c (.fn 86 [])) [.t 36, .t 37, .t 38], none, []⟩] [0, 1, 2, 3, 8, 9, 10])
   (.rgn false [⟨some 40, .mov (.t 3), none, []⟩,
    ⟨some 41, .bin .sub 0 (.t 40) (.c (.int .i64 (1))), none, []⟩,
    ⟨some 3, .mov (.t 41), none, []⟩] [0, 1, 2, 3, 8, 9, 10]))
   (.skip)))
   (.seq (.rgn false [⟨some 43, .mov (.t 0), none, []⟩,
    ⟨some 44, .mov (.t 1), none, []⟩,
    ⟨some 45, .mov (.t 2), none, []⟩,
    ⟨some 46, .call 1 (.c (.fn 85 [])) [.t 43, .t 44, .t 45], none, []⟩,
    ⟨some 42, .mov (.t 46), none, []⟩,
    ⟨some 47, .ext (.t 42) 0, none, []⟩,
    ⟨some 48, .ext (.t 42) 1, none, []⟩,
    ⟨some 11, .mov (.t 47), none, []⟩,
    ⟨some 12, .mov (.t 48), none, []⟩] [0, 1, 2, 3, 8, 9, 10, 11, 12])
   (.seq (.seq (.rgn false [⟨some 49, .mov (.t 12), none, []⟩,
    ⟨some 50, .bin .eql 0 (.t 49) (.c (.int .i64 (2))), none, []⟩] [0, 1, 2, 3, 8, 9, 10, 11, 12, 50])
   (.cond (.t 50) (.seq (.rgn false [⟨some 51, .mov (.t 0), none, []⟩,
    ⟨some 52, .mov (.t 1), none, []⟩,
    ⟨some 53, .mov (.t 2), none, []⟩,
    ⟨some 54, .call 1 (.c (.fn 84 [])) [.t 51, .t 52, .t 53], none, []⟩] [0, 1, 2, 3, 8, 9, 10, 11])
   (.seq (.rgn false [⟨some 55, .mov (.t 2), none, []⟩,
    ⟨some 56, .bin .sub 0 (.t 55) (.c (.int .i64 (1))), none, []⟩,
    ⟨some 57, .mov (.t 11), none, []⟩,
    ⟨some 58, .mov (.t 1), none, []⟩,
    ⟨some 59, .bin .sub 0 (.t 57) (.t 58), none, []⟩,
    ⟨some 60, .bin .sub 0 (.t 56) (.t 59), none, []⟩,
    ⟨some 11, .mov (.t 60), none, []⟩] [0, 1, 2, 3, 8, 9, 10, 11])
   (.rgn false [⟨some 12, .mov (.c (.int .i64 (1))), none, []⟩] [0, 1, 2, 3, 8, 9, 10, 11, 12])))
   (.skip)))
   (.seq (.seq (.rgn false [⟨some 61, .mov (.t 8), none, []⟩,
    ⟨some 62, .mov (.t 61), none, []⟩,
    ⟨some 63, .mov (.t 9), some (62, true), []⟩,
    ⟨some 64, .pick (.t 62) (.t 63) (.c (.bool false)), none, []⟩,
    ⟨some 65, .mov (.t 64), none, []⟩,
    ⟨some 66, .mov (.t 12), some (65, true), []⟩,
    ⟨some 67, .bin .eql 0 (.t 66) (.c (.int .i64 (1))), some (65, true), []⟩,
    ⟨some 68, .pick (.t 65) (.t 67) (.c (.bool false)), none, []⟩] [0, 1, 2, 3, 8, 9, 10, 11, 68])
   (.cond (.t 68) (.seq (.rgn false [⟨some 69, .mov (.t 0), none, []⟩,
    ⟨some 70, .mov (.t 1), none, []⟩,
    ⟨some 71, .mov (.t 2), none, []⟩,
    ⟨some 72, .call 1 (.c (.fn 83 [])) [.t 69, .t 70, .t 71], none, []⟩] [0, 1, 2, 3, 8, 9, 10, 11, 72])
   (.cond (.t 72) (.ret)
   (.skip)))
   (.skip)))
   (.seq (.seq (.rgn true [⟨some 73, .mov (.t 1), none, []⟩,
    ⟨some 74, .bin .gtr 0 (.t 73) (.c (.int .i64 (0))), none, [0]⟩,
    ⟨some 75, .mov (.t 74), none, [0, 1]⟩,
    ⟨some 76, .mov (.t 0), some (75, true), [0, 1, 2]⟩,
    ⟨some 77, .mov (.t 1), some (75, true), [0, 1, 2]⟩,
    ⟨some 78, .bin .sub 0 (.t 77) (.c (.int .i64 (1))), some (75, true), [0, 1, 2, 4]⟩,
    ⟨some 79, .isl 1 (.t 76) (.t 78), some (75, true), [0, 1, 2, 3, 4, 5]⟩,
    ⟨some 80, .load false 1 (.t 79), some (75, true), [0, 1, 2, 3, 4, 5, 6]⟩,
    ⟨some 81, .mov (.t 0), some (75, true), [0, 1, 2]⟩,
    ⟨some 82, .mov (.t 11), some (75, true), [0, 1, 2]⟩,
    ⟨some 83, .isl 1 (.t 81) (.t 82), some (75, true), [0, 1, 2, 8, 9]⟩,
    ⟨some 84, .load false 1 (.t 83), some (75, true), [0, 1, 2, 8, 9, 10]⟩,
    ⟨some 85, .call 0 (.c (.fn 72 [])) [.t 80, .t 84], some (75, true), [0, 1, 2, 3, 4, 5, 6, 7, 8, 9, 10, 11]⟩,
    ⟨some 86, .un .not (.t 85), some (75, true), [0, 1, 2, 3, 4, 5, 6, 7, 8, 9, 10, 11, 12]⟩,
    ⟨some 87, .pick (.t 75) (.t 86) (.c (.bool false)), none, [0, 1, 2, 3, 4, 5, 6, 7, 8, 9, 10, 11, 12, 13]⟩] [0, 1, 2, 3, 8, 9, 10, 11, 87])
   (.cond (.t 87) (.seq (.rgn false [⟨some 88, .mov (.t 0), none, []⟩,
    ⟨some 89, .mov (.t 1), none, []⟩,
    ⟨some 90, .mov (.t 2), none, []⟩,
    ⟨some 91, .mov (.t 11), none, []⟩,
    ⟨some 92, .call 1 (.c (.fn 82 [])) [.t 88, .t 89, .t 90, .t 91], none, []⟩,
    ⟨some 13, .mov (.t 92), none, []⟩] [0, 2, 3, 8, 9, 13])
   (.seq (.rgn false [⟨some 93, .mov (.t 13), none, []⟩,
    ⟨some 1, .mov (.t 93), none, []⟩] [0, 1, 2, 3, 8, 9])
   (.exit 1)))
   (.skip)))
   (.seq (.rgn false [⟨some 95, .mov (.t 0), none, []⟩,
    ⟨some 96, .mov (.t 1), none, []⟩,
    ⟨some 97, .mov (.t 2), none, []⟩,
    ⟨some 98, .mov (.t 11), none, []⟩,
    ⟨some 99, .call 1 (.c (.fn 81 [])) [.t 95, .t 96, .t 97, .t 98], none, []⟩,
    ⟨some 94, .mov (.t 99), none, []⟩,
    ⟨some 100, .ext (.t 94) 0, none, []⟩,
    ⟨some 101, .ext (.t 94) 1, none, []⟩,
    ⟨some 14, .mov (.t 100), none, []⟩,
    ⟨some 15, .mov (.t 101), none, []⟩] [0, 1, 2, 3, 10, 14, 15])
   (.seq (.rgn false [⟨some 102, .mov (.t 15), none, []⟩,
    ⟨some 9, .mov (.t 102), none, []⟩] [0, 1, 2, 3, 9, 10, 14])
   (.seq (.rgn false [⟨some 103, .mov (.t 14), none, []⟩,
    ⟨some 104, .mov (.t 1), none, []⟩,
    ⟨some 105, .bin .sub 0 (.t 103) (.t 104), none, []⟩,
    ⟨some 106, .mov (.t 2), none, []⟩,
    ⟨some 107, .mov (.t 14), none, []⟩,
    ⟨some 108, .bin .sub 0 (.t 106) (.t 107), none, []⟩,
    ⟨some 16, .mov (.t 105), none, []⟩,
    ⟨some 17, .mov (.t 108), none, []⟩] [0, 1, 2, 3, 9, 10, 14, 16, 17])
   (.seq (.rgn false [⟨some 109, .mov (.t 10), none, []⟩,
    ⟨some 110, .bin .quo 0 (.t 109) (.c (.int .i64 (8))), none, []⟩,
    ⟨some 18, .mov (.t 110), none, []⟩] [0, 1, 2, 3, 9, 14, 16, 17, 18])
   (.seq (.rgn false [⟨some 111, .mov (.t 16), none, []⟩,
    ⟨some 112, .mov (.t 17), none, []⟩,
    ⟨some 113, .bin .lss 0 (.t 111) (.t 112), none, []⟩] [0, 1, 2, 3, 9, 14, 16, 17, 18, 113])
   (.cond (.t 113) (.seq (.rgn false [⟨some 114, .mov (.t 16), none, []⟩,
    ⟨some 115, .mov (.t 18), none, []⟩,
    ⟨some 116, .bin .geq 0 (.t 114) (.t 115), none, []⟩,
    ⟨some 8, .mov (.t 116), none, []⟩] [0, 1, 2, 3, 8, 9, 14])
   (.seq (.rgn false [⟨some 117, .mov (.t 0), none, []⟩,
    ⟨some 118, .mov (.t 1), none, []⟩,
    ⟨some 119, .mov (.t 14), none, []⟩,
    ⟨some 120, .mov (.t 3), none, []⟩,
    ⟨some 121, .call 1 (.c (.fn 65 [])) [.t 117, .t 118, .t 119, .t 120], none, []⟩] [0, 2, 3, 8, 9, 14])
   (.rgn false [⟨some 122, .mov (.t 14), none, []⟩,
    ⟨some 123, .bin .add 0 (.t 122) (.c (.int .i64 (1))), none, []⟩,
    ⟨some 1, .mov (.t 123), none, []⟩] [0, 1, 2, 3, 8, 9])))
   (.seq (.rgn false [⟨some 124, .mov (.t 17), none, []⟩,
    ⟨some 125, .mov (.t 18), none, []⟩,
    ⟨some 126, .bin .geq 0 (.t 124) (.t 125), none, []⟩,
    ⟨some 8, .mov (.t 126), none, []⟩] [0, 1, 2, 3, 8, 9, 14])
   (.seq (.rgn false [⟨some 127, .mov (.t 0), none, []⟩,
    ⟨some 128, .mov (.t 14), none, []⟩,
    ⟨some 129, .bin .add 0 (.t 128) (.c (.int .i64 (1))), none, []⟩,
    ⟨some 130, .mov (.t 2), none, []⟩,
    ⟨some 131, .mov (.t 3), none, []⟩,
    ⟨some 132, .call 1 (.c (.fn 65 [])) [.t 127, .t 129, .t 130, .t 131], none, []⟩] [0, 1, 3, 8, 9, 14])
   (.rgn false [⟨some 133, .mov (.t 14), none, []⟩,
    ⟨some 2, .mov (.t 133), none, []⟩] [0, 1, 2, 3, 8, 9]))))))))))))))))))))), none⟩
/-- arbour/set.Empty -/
def F66 : IFn := ⟨1, [.t 2],
   .seq (.rgn false [⟨some 1, .box (.t 0), none, []⟩,
    ⟨some 2, .mov (.c (.bool false)), none, []⟩] [1])
   (.seq (.rgn false [⟨some 3, .fadr 0 (.t 1), none, []⟩,
    ⟨some 4, .load false 1 (.t 3), none, []⟩,
    ⟨some 5, .un .not (.t 4), none, []⟩,
    ⟨some 6, .mov (.t 5), none, []⟩,
    ⟨some 7, .fadr 1 (.t 1), some (6, true), []⟩,
    ⟨some 8, .load false 1 (.t 7), some (6, true), []⟩,
    ⟨some 9, .len false (.t 8), some (6, true), []⟩,
    ⟨some 10, .bin .eql 0 (.t 9) (.c (.int .i64 (0))), some (6, true), []⟩,
    ⟨some 11, .pick (.t 6) (.t 10) (.c (.bool false)), none, []⟩,
    ⟨some 12, .mov (.t 11), none, []⟩,
    ⟨some 13, .fadr 2 (.t 1), some (12, true), []⟩,
    ⟨some 14, .load false 1 (.t 13), some (12, true), []⟩,
    ⟨some 15, .un .not (.t 14), some (12, true), []⟩,
    ⟨some 16, .pick (.t 12) (.t 15) (.c (.bool false)), none, []⟩,
    ⟨some 17, .mov (.t 16), none, []⟩,
    ⟨some 18, .fadr 3 (.t 1), some (17, true), []⟩,
    ⟨some 19, .load false 1 (.t 18), some (17, true), []⟩,
    ⟨some 20, .len false (.t 19), some (17, true), []⟩,
    ⟨some 21, .bin .eql 0 (.t 20) (.c (.int .i64 (0))), some (17, true), []⟩,
    ⟨some 22, .pick (.t 17) (.t 21) (.c (.bool false)), none, []⟩,
    ⟨some 2, .mov (.t 22), none, []⟩] [2])
   (.ret)), none⟩
/-- slices.insertionSortCmpFunc[arbour/api.Range] -/
def F68 : IFn := ⟨4, [],
   .seq (.rgn false [⟨some 10, .mov (.t 1), none, []⟩,
    ⟨some 11, .bin .add 0 (.t 10) (.c (.int .i64 (1))), none, []⟩,
    ⟨some 8, .mov (.t 11), none, []⟩] [0, 1, 2, 3, 8])
   (.block 0 (.loop [0, 1, 2, 3, 8] (.seq (.seq (.rgn false [⟨some 12, .mov (.t 8), none, []⟩,
    ⟨some 13, .mov (.t 2), none, []⟩,
    ⟨some 14, .bin .lss 0 (.t 12) (.t 13), none, []⟩] [0, 1, 2, 3, 8, 14])
   (.cond (.t 14) (.skip)
   (.exit 0)))
   (.seq (.block 1 (.seq (.rgn false [⟨some 17, .mov (.t 8), none, []⟩,
    ⟨some 9, .mov (.t 17), none, []⟩] [0, 1, 2, 3, 8, 9])
   (.block 2 (.loop [0, 1, 2, 3, 8, 9] (.seq (.seq (.rgn true [⟨some 18, .mov (.t 9), none, []⟩,
    ⟨some 19, .mov (.t 1), none, []⟩,
    ⟨some 20, .bin .gtr 0 (.t 18) (.t 19), none, [0, 1]⟩,
    ⟨some 21, .mov (.t 20), none, [0, 1, 2]⟩,
    ⟨some 22, .mov (.t 3), some (21, true), [0, 1, 2, 3]⟩,
    ⟨some 23, .mov (.t 0), some (21, true), [0, 1, 2, 3]⟩,
    ⟨some 24, .mov (.t 9), some (21, true), [0, 1, 2, 3]⟩,
    ⟨some 25, .isl 2 (.t 23) (.t 24), some (21, true), [0, 1, 2, 3, 5, 6]⟩,
    ⟨some 26, .load true 2 (.t 25), some (21, true), [0, 1, 2, 3, 5, 6, 7]⟩,
    ⟨some 27, .mov (.t 0), some (21, true), [0, 1, 2, 3]⟩,
    ⟨some 28, .mov (.t 9), some (21, true), [0, 1, 2, 3]⟩,
    ⟨some 29, .bin .sub 0 (.t 28) (.c (.int .i64 (1))), some (21, true), [0, 1, 2, 3, 10]⟩,
    ⟨some 30, .isl 2 (.t 27) (.t 29), some (21, true), [0, 1, 2, 3, 9, 10, 11]⟩,
    ⟨some 31, .load true 2 (.t 30), some (21, true), [0, 1, 2, 3, 9, 10, 11, 12]⟩,
    ⟨some 32, .call 0 (.t 22) [.t 26, .t 31], some (21, true), [0, 1, 2, 3, 4, 5, 6, 7, 8, 9, 10, 11, 12, 13]⟩,
    ⟨some 33, .bin .lss 0 (.t 32) (.c (.int .i64 (0))), some (21, true), [0, 1, 2, 3, 4, 5, 6, 7, 8, 9, 10, 11, 12, 13, 14]⟩,
    ⟨some 34, .pick (.t 21) (.t 33) (.c (.bool false)), none, [0, 1, 2, 3, 4, 5, 6, 7, 8, 9, 10, 11, 12, 13, 14, 15]⟩] [0, 1, 2, 3, 8, 9, 34])
   (.cond (.t 34) (.skip)
   (.exit 2)))
   (.seq (.block 3 (.rgn true [⟨some 37, .mov (.t 0), none, []⟩,
    ⟨some 38, .mov (.t 9), none, []⟩,
    ⟨some 39, .mov (.t 0), none, []⟩,
    ⟨some 40, .mov (.t 9), none, []⟩,
    ⟨some 41, .bin .sub 0 (.t 40) (.c (.int .i64 (1))), none, [3]⟩,
    ⟨some 42, .mov (.t 0), none, []⟩,
    ⟨some 43, .mov (.t 9), none, []⟩,
    ⟨some 44, .bin .sub 0 (.t 43) (.c (.int .i64 (1))), none, [6]⟩,
    ⟨some 45, .isl 2 (.t 42) (.t 44), none, [5, 6, 7]⟩,
    ⟨some 46, .load true 2 (.t 45), none, [5, 6, 7, 8]⟩,
    ⟨some 47, .mov (.t 0), none, []⟩,
    ⟨some 48, .mov (.t 9), none, []⟩,
    ⟨some 49, .isl 2 (.t 47) (.t 48), none, [10, 11]⟩,
    ⟨some 50, .load true 2 (.t 49), none, [10, 11, 12]⟩,
    ⟨some 51, .isl 2 (.t 37) (.t 38), none, [0, 1, 5, 6, 7, 8, 9, 10, 11, 12, 13]⟩,
    ⟨none, .store 2 (.t 51) (.t 46), none, [0, 1, 5, 6, 7, 8, 9, 10, 11, 12, 13, 14]⟩,
    ⟨some 52, .isl 2 (.t 39) (.t 41), none, [0, 1, 2, 3, 4, 5, 6, 7, 8, 9, 10, 11, 12, 13, 14, 15]⟩,
    ⟨none, .store 2 (.t 52) (.t 50), none, [0, 1, 2, 3, 4, 5, 6, 7, 8, 9, 10, 11, 12, 13, 14, 15, 16]⟩] [0, 1, 2, 3, 8, 9]))
   (.rgn false [⟨some 35, .mov (.t 9), none, []⟩,
    ⟨some 36, .bin .sub 0 (.t 35) (.c (.int .i64 (1))), none, []⟩,
    ⟨some 9, .mov (.t 36), none, []⟩] [0, 1, 2, 3, 8, 9])))))))
   (.rgn false [⟨some 15, .mov (.t 8), none, []⟩,
    ⟨some 16, .bin .add 0 (.t 15) (.c (.int .i64 (1))), none, []⟩,
    ⟨some 8, .mov (.t 16), none, []⟩] [0, 1, 2, 3, 8]))))), none⟩
/-- math/bits.Len32 -/
def F69 : IFn := ⟨1, [.t 2],
   .seq (.rgn false [⟨some 2, .mov (.c (.int .i64 (0))), none, []⟩] [0, 2])
   (.seq (.seq (.rgn false [⟨some 3, .mov (.t 0), none, []⟩,
    ⟨some 4, .bin .geq 0 (.t 3) (.c (.int .u32 (65536))), none, []⟩] [0, 2, 4])
   (.cond (.t 4) (.seq (.rgn false [⟨some 5, .mov (.t 0), none, []⟩,
    ⟨some 6, .bin .shr 0 (.t 5) (.c (.int .u64 (16))), none, []⟩,
    ⟨some 0, .mov (.t 6), none, []⟩] [0])
   (.rgn false [⟨some 2, .mov (.c (.int .i64 (16))), none, []⟩] [0, 2]))
   (.skip)))
   (.seq (.seq (.rgn false [⟨some 7, .mov (.t 0), none, []⟩,
    ⟨some 8, .bin .geq 0 (.t 7) (.c (.int .u32 (256))), none, []⟩] [0, 2, 8])
   (.cond (.t 8) (.seq (.rgn false [⟨some 9, .mov (.t 0), none, []⟩,
    ⟨some 10, .bin .shr 0 (.t 9) (.c (.int .u64 (8))), none, []⟩,
    ⟨some 0, .mov (.t 10), none, []⟩] [0, 2])
   (.rgn false [⟨some 11, .mov (.t 2), none, []⟩,
    ⟨some 12, .bin .add 0 (.t 11) (.c (.int .i64 (8))), none, []⟩,
    ⟨some 2, .mov (.t 12), none, []⟩] [0, 2]))
   (.skip)))
   (.seq (.rgn false [⟨some 13, .mov (.t 2), none, []⟩,
    ⟨some 14, .mov (.t 0), none, []⟩,
    ⟨some 15, .cvi .u8 (.t 14), none, []⟩,
    ⟨some 16, .xstr (.c (.str ⟨#[0, 1, 2, 2, 3, 3, 3, 3, 4, 4, 4, 4, 4, 4, 4, 4, 5, 5, 5, 5, 5, 5, 5, 5, 5, 5, 5, 5, 5, 5, 5, 5, 6, 6, 6, 6, 6, 6, 6, 6, 6, 6, 6, 6, 6, 6, 6, 6, 6, 6, 6, 6, 6, 6, 6, 6, 6, 6, 6, 6, 6, 6, 6, 6, 7, 7, 7, 7, 7, 7, 7, 7, 7, 7, 7, 7, 7, 7, 7, 7, 7, 7, 7, 7, 7, 7, 7, 7, 7, 7, 7, 7, 7, 7, 7, 7, 7, 7, 7, 7, 7, 7, 7, 7, 7, 7, 7, 7, 7, 7, 7, 7, 7, 7, 7, 7, 7, 7, 7, 7, 7, 7, 7, 7, 7, 7, 7, 7, 8, 8, 8, 8, 8, 8, 8, 8, 8, 8, 8, 8, 8, 8, 8, 8, 8, 8, 8, 8, 8, 8, 8, 8, 8, 8, 8, 8, 8, 8, 8, 8, 8, 8, 8, 8, 8, 8, 8, 8, 8, 8, 8, 8, 8, 8, 8, 8, 8, 8, 8, 8, 8, 8, 8, 8, 8, 8, 8, 8, 8, 8, 8, 8, 8, 8, 8, 8, 8, 8, 8, 8, 8, 8, 8, 8, 8, 8, 8, 8, 8, 8, 8, 8, 8, 8, 8, 8, 8, 8, 8, 8, 8, 8, 8, 8, 8, 8, 8, 8, 8, 8, 8, 8, 8, 8, 8, 8, 8, 8, 8, 8, 8, 8, 8, 8, 8, 8, 8, 8, 8, 8, 8, 8, 8, 8, 8, 8]⟩)) (.t 15), none, []⟩,
    ⟨some 17, .cvi .i64 (.t 16), none, []⟩,
    ⟨some 18, .bin .add 0 (.t 13) (.t 17), none, []⟩,
    ⟨some 2, .mov (.t 18), none, []⟩] [2])
   (.ret)))), none⟩
/-- math/bits.Len64 -/
def F70 : IFn := ⟨1, [.t 2],
   .seq (.rgn false [⟨some 2, .mov (.c (.int .i64 (0))), none, []⟩] [0, 2])
   (.seq (.seq (.rgn false [⟨some 3, .mov (.t 0), none, []⟩,
    ⟨some 4, .bin .geq 0 (.t 3) (.c (.int .u64 (4294967296))), none, []⟩] [0, 2, 4])
   (.cond (.t 4) (.seq (.rgn false [⟨some 5, .mov (.t 0), none, []⟩,
    ⟨some 6, .bin .shr 0 (.t 5) (.c (.int .u64 (32))), none, []⟩,
    ⟨some 0, .mov (.t 6), none, []⟩] [0])
   (.rgn false [⟨some 2, .mov (.c (.int .i64 (32))), none, []⟩] [0, 2]))
   (.skip)))
   (.seq (.seq (.rgn false [⟨some 7, .mov (.t 0), none, []⟩,
    ⟨some 8, .bin .geq 0 (.t 7) (.c (.int .u64 (65536))), none, []⟩] [0, 2, 8])
   (.cond (.t 8) (.seq (.rgn false [⟨some 9, .mov (.t 0), none, []⟩,
    ⟨some 10, .bin .shr 0 (.t 9) (.c (.int .u64 (16))), none, []⟩,
    ⟨some 0, .mov (.t 10), none, []⟩] [0, 2])
   (.rgn false [⟨some 11, .mov (.t 2), none, []⟩,
    ⟨some 12, .bin .add 0 (.t 11) (.c (.int .i64 (16))), none, []⟩,
    ⟨some 2, .mov (.t 12), none, []⟩] [0, 2]))
   (.skip)))
   (.seq (.seq (.rgn false [⟨some 13, .mov (.t 0), none, []⟩,
    ⟨some 14, .bin .geq 0 (.t 13) (.c (.int .u64 (256))), none, []⟩] [0, 2, 14])
   (.cond (.t 14) (.seq (.rgn false [⟨some 15, .mov (.t 0), none, []⟩,
    ⟨some 16, .bin .shr 0 (.t 15) (.c (.int .u64 (8))), none, []⟩,
    ⟨some 0, .mov (.t 16), none, []⟩] [0, 2])
   (.rgn false [⟨some 17, .mov (.t 2), none, []⟩,
    ⟨some 18, .bin .add 0 (.t 17) (.c (.int .i64 (8))), none, []⟩,
    ⟨some 2, .mov (.t 18), none, []⟩] [0, 2]))
   (.skip)))
   (.seq (.rgn false [⟨some 19, .mov (.t 2), none, []⟩,
    ⟨some 20, .mov (.t 0), none, []⟩,
    ⟨some 21, .cvi .u8 (.t 20), none, []⟩,
    ⟨some 22, .xstr (.c (.str ⟨#[0, 1, 2, 2, 3, 3, 3, 3, 4, 4, 4, 4, 4, 4, 4, 4, 5, 5, 5, 5, 5, 5, 5, 5, 5, 5, 5, 5, 5, 5, 5, 5, 6, 6, 6, 6, 6, 6, 6, 6, 6, 6, 6, 6, 6, 6, 6, 6, 6, 6, 6, 6, 6, 6, 6, 6, 6, 6, 6, 6, 6, 6, 6, 6, 7, 7, 7, 7, 7, 7, 7, 7, 7, 7, 7, 7, 7, 7, 7, 7, 7, 7, 7, 7, 7, 7, 7, 7, 7, 7, 7, 7, 7, 7, 7, 7, 7, 7, 7, 7, 7, 7, 7, 7, 7, 7, 7, 7, 7, 7, 7, 7, 7, 7, 7, 7, 7, 7, 7, 7, 7, 7, 7, 7, 7, 7, 7, 7, 8, 8, 8, 8, 8, 8, 8, 8, 8, 8, 8, 8, 8, 8, 8, 8, 8, 8, 8, 8, 8, 8, 8, 8, 8, 8, 8, 8, 8, 8, 8, 8, 8, 8, 8, 8, 8, 8, 8, 8, 8, 8, 8, 8, 8, 8, 8, 8, 8, 8, 8, 8, 8, 8, 8, 8, 8, 8, 8, 8, 8, 8, 8, 8, 8, 8, 8, 8, 8, 8, 8, 8, 8, 8, 8, 8, 8, 8, 8, 8, 8, 8, 8, 8, 8, 8, 8, 8, 8, 8, 8, 8, 8, 8, 8, 8, 8, 8, 8, 8, 8, 8, 8, 8, 8, 8, 8, 8, 8, 8, 8, 8, 8, 8, 8, 8, 8, 8, 8, 8, 8, 8, 8, 8, 8, 8, 8, 8]⟩)) (.t 21), none, []⟩,
    ⟨some 23, .cvi .i64 (.t 22), none, []⟩,
    ⟨some 24, .bin .add 0 (.t 19) (.t 23), none, []⟩,
    ⟨some 2, .mov (.t 24), none, []⟩] [2])
   (.ret))))), none⟩
/-- slices.insertionSortOrdered[string] -/
def F71 : IFn := ⟨3, [],
   .seq (.rgn false [⟨some 8, .mov (.t 1), none, []⟩,
    ⟨some 9, .bin .add 0 (.t 8) (.c (.int .i64 (1))), none, []⟩,
    ⟨some 6, .mov (.t 9), none, []⟩] [0, 1, 2, 6])
   (.block 0 (.loop [0, 1, 2, 6] (.seq (.seq (.rgn false [⟨some 10, .mov (.t 6), none, []⟩,
    ⟨some 11, .mov (.t 2), none, []⟩,
    ⟨some 12, .bin .lss 0 (.t 10) (.t 11), none, []⟩] [0, 1, 2, 6, 12])
   (.cond (.t 12) (.skip)
   (.exit 0)))
   (.seq (.block 1 (.seq (.rgn false [⟨some 15, .mov (.t 6), none, []⟩,
    ⟨some 7, .mov (.t 15), none, []⟩] [0, 1, 2, 6, 7])
   (.block 2 (.loop [0, 1, 2, 6, 7] (.seq (.seq (.rgn true [⟨some 16, .mov (.t 7), none, []⟩,
    ⟨some 17, .mov (.t 1), none, []⟩,
    ⟨some 18, .bin .gtr 0 (.t 16) (.t 17), none, [0, 1]⟩,
    ⟨some 19, .mov (.t 18), none, [0, 1, 2]⟩,
    ⟨some 20, .mov (.t 0), some (19, true), [0, 1, 2, 3]⟩,
    ⟨some 21, .mov (.t 7), some (19, true), [0, 1, 2, 3]⟩,
    ⟨some 22, .isl 1 (.t 20) (.t 21), some (19, true), [0, 1, 2, 3, 4, 5]⟩,
    ⟨some 23, .load false 1 (.t 22), some (19, true), [0, 1, 2, 3, 4, 5, 6]⟩,
    ⟨some 24, .mov (.t 0), some (19, true), [0, 1, 2, 3]⟩,
    ⟨some 25, .mov (.t 7), some (19, true), [0, 1, 2, 3]⟩,
    ⟨some 26, .bin .sub 0 (.t 25) (.c (.int .i64 (1))), some (19, true), [0, 1, 2, 3, 9]⟩,
    ⟨some 27, .isl 1 (.t 24) (.t 26), some (19, true), [0, 1, 2, 3, 8, 9, 10]⟩,
    ⟨some 28, .load false 1 (.t 27), some (19, true), [0, 1, 2, 3, 8, 9, 10, 11]⟩,
    ⟨some 29, .call 0 (.c (.fn 72 [])) [.t 23, .t 28], some (19, true), [0, 1, 2, 3, 4, 5, 6, 7, 8, 9, 10, 11, 12]⟩,
    ⟨some 30, .pick (.t 19) (.t 29) (.c (.bool false)), none, [0, 1, 2, 3, 4, 5, 6, 7, 8, 9, 10, 11, 12, 13]⟩] [0, 1, 2, 6, 7, 30])
   (.cond (.t 30) (.skip)
   (.exit 2)))
   (.seq (.block 3 (.rgn true [⟨some 33, .mov (.t 0), none, []⟩,
    ⟨some 34, .mov (.t 7), none, []⟩,
    ⟨some 35, .mov (.t 0), none, []⟩,
    ⟨some 36, .mov (.t 7), none, []⟩,
    ⟨some 37, .bin .sub 0 (.t 36) (.c (.int .i64 (1))), none, [3]⟩,
    ⟨some 38, .mov (.t 0), none, []⟩,
    ⟨some 39, .mov (.t 7), none, []⟩,
    ⟨some 40, .bin .sub 0 (.t 39) (.c (.int .i64 (1))), none, [6]⟩,
    ⟨some 41, .isl 1 (.t 38) (.t 40), none, [5, 6, 7]⟩,
    ⟨some 42, .load false 1 (.t 41), none, [5, 6, 7, 8]⟩,
    ⟨some 43, .mov (.t 0), none, []⟩,
    ⟨some 44, .mov (.t 7), none, []⟩,
    ⟨some 45, .isl 1 (.t 43) (.t 44), none, [10, 11]⟩,
    ⟨some 46, .load false 1 (.t 45), none, [10, 11, 12]⟩,
    ⟨some 47, .isl 1 (.t 33) (.t 34), none, [0, 1, 5, 6, 7, 8, 9, 10, 11, 12, 13]⟩,
    ⟨none, .store 1 (.t 47) (.t 42), none, [0, 1, 5, 6, 7, 8, 9, 10, 11, 12, 13, 14]⟩,
    ⟨some 48, .isl 1 (.t 35) (.t 37), none, [0, 1, 2, 3, 4, 5, 6, 7, 8, 9, 10, 11, 12, 13, 14, 15]⟩,
    ⟨none, .store 1 (.t 48) (.t 46), none, [0, 1, 2, 3, 4, 5, 6, 7, 8, 9, 10, 11, 12, 13, 14, 15, 16]⟩] [0, 1, 2, 6, 7]))
   (.rgn false [⟨some 31, .mov (.t 7), none, []⟩,
    ⟨some 32, .bin .sub 0 (.t 31) (.c (.int .i64 (1))), none, []⟩,
    ⟨some 7, .mov (.t 32), none, []⟩] [0, 1, 2, 6, 7])))))))
   (.rgn false [⟨some 13, .mov (.t 6), none, []⟩,
    ⟨some 14, .bin .add 0 (.t 13) (.c (.int .i64 (1))), none, []⟩,
    ⟨some 6, .mov (.t 14), none, []⟩] [0, 1, 2, 6]))))), none⟩
/-- cmp.Less[string] -/
def F72 : IFn := ⟨2, [.t 4],
   .seq (.rgn false [⟨some 4, .mov (.c (.bool false)), none, []⟩] [0, 1])
   (.seq (.rgn false [⟨some 5, .mov (.t 0), none, []⟩,
    ⟨some 6, .call 0 (.c (.fn 88 [])) [.t 5], none, []⟩,
    ⟨some 7, .mov (.t 6), none, []⟩,
    ⟨some 8, .mov (.t 1), some (7, true), []⟩,
    ⟨some 9, .call 0 (.c (.fn 88 [])) [.t 8], some (7, true), []⟩,
    ⟨some 10, .un .not (.t 9), some (7, true), []⟩,
    ⟨some 11, .pick (.t 7) (.t 10) (.c (.bool false)), none, []⟩,
    ⟨some 12, .mov (.t 11), none, []⟩,
    ⟨some 13, .mov (.t 0), some (12, false), []⟩,
    ⟨some 14, .mov (.t 1), some (12, false), []⟩,
    ⟨some 15, .bin .lss 0 (.t 13) (.t 14), some (12, false), []⟩,
    ⟨some 16, .pick (.t 12) (.c (.bool true)) (.t 15), none, []⟩,
    ⟨some 4, .mov (.t 16), none, []⟩] [4])
   (.ret)), none⟩
/-- cmp.isNaN[string] -/
def F88 : IFn := ⟨1, [.t 2],
   .seq (.rgn false [⟨some 2, .mov (.c (.bool false)), none, []⟩] [0])
   (.seq (.rgn false [⟨some 3, .mov (.t 0), none, []⟩,
    ⟨some 4, .mov (.t 0), none, []⟩,
    ⟨some 5, .bin .neq 0 (.t 3) (.t 4), none, []⟩,
    ⟨some 2, .mov (.t 5), none, []⟩] [2])
   (.ret)), none⟩
end Arb
