/-
  THE FUNCTIONS OF THE PROGRAM FOR THE ABSTRACT MACHINE: printed by gen.py.
-/
import Derived.Test.YtiggikalagohaaaGreatArbA
import Derived.Test.YtiggikalagohaaaGreatArbB
import Derived.Test.YtiggikalagohaaaGreatArbC
import Derived.Test.YtiggikalagohaaaGreatArbD
import Derived.Test.YtiggikalagohaaaGreatArbE
namespace Arb
open Go
/-- arbour/arbourlaw13.MergeBest -/
def F91 : IFn := ⟨2, [.t 4],
   .seq (.rgn false [⟨some 4, .mov (.c (.bool false)), none, []⟩] [0, 1])
   (.seq (.seq (.rgn false [⟨some 15, .call 0 (.c (.fn 4 [])) [], none, []⟩,
    ⟨some 16, .un .not (.t 15), none, []⟩,
    ⟨some 17, .mov (.t 16), none, []⟩,
    ⟨some 18, .mov (.t 0), some (17, false), []⟩,
    ⟨some 19, .len false (.t 18), some (17, false), []⟩,
    ⟨some 20, .bin .gtr 0 (.t 19) (.c (.int .i64 (8))), some (17, false), []⟩,
    ⟨some 21, .pick (.t 17) (.c (.bool true)) (.t 20), none, []⟩] [0, 1, 21])
   (.cond (.t 21) (.seq (.rgn false [⟨some 22, .call 0 (.c (.fn 4 [])) [], none, []⟩,
    ⟨some 4, .mov (.t 22), none, []⟩] [4])
   (.ret))
   (.skip)))
   (.seq (.seq (.rgn false [⟨some 23, .mov (.t 0), none, []⟩,
    ⟨some 24, .len false (.t 23), none, []⟩,
    ⟨some 25, .mov (.c (.int .i64 (0))), none, []⟩] [0, 1, 23, 24, 25])
   (.block 0 (.loop [0, 1, 23, 24, 25] (.seq (.rgn false [⟨some 26, .bin .lss 0 (.t 25) (.t 24), none, []⟩] [0, 1, 23, 24, 25, 26])
   (.seq (.cond (.t 26) (.skip)
   (.exit 0))
   (.seq (.block 1 (.seq (.rgn false [⟨some 27, .isl 3 (.t 23) (.t 25), none, []⟩,
    ⟨some 28, .load true 3 (.t 27), none, []⟩,
    ⟨some 6, .alloc [.int .i64 0, .nsl 16, .int .u64 0], none, []⟩,
    ⟨none, .store 3 (.t 6) (.t 28), none, []⟩] [0, 1, 6, 23, 24, 25])
   (.seq (.rgn false [⟨some 29, .fadr 1 (.t 6), none, []⟩,
    ⟨some 30, .load false 1 (.t 29), none, []⟩,
    ⟨some 31, .call 0 (.c (.fn 5 [])) [.t 30], none, []⟩,
    ⟨some 32, .un .not (.t 31), none, []⟩,
    ⟨some 33, .mov (.t 32), none, []⟩,
    ⟨some 34, .fadr 1 (.t 6), some (33, false), []⟩,
    ⟨some 35, .load false 1 (.t 34), some (33, false), []⟩,
    ⟨some 36, .len false (.t 35), some (33, false), []⟩,
    ⟨some 37, .bin .gtr 0 (.t 36) (.c (.int .i64 (0))), some (33, false), []⟩,
    ⟨some 38, .mov (.t 37), some (33, false), []⟩,
    ⟨some 39, .fadr 1 (.t 6), some (38, true), []⟩,
    ⟨some 40, .load false 1 (.t 39), some (38, true), []⟩,
    ⟨some 41, .isl 16 (.t 40) (.c (.int .i64 (0))), some (38, true), []⟩,
    ⟨some 42, .iarr 4 4 (.t 41) (.c (.int .i64 (0))), some (38, true), []⟩,
    ⟨some 43, .load true 4 (.t 42), some (38, true), []⟩,
    ⟨some 44, .bsl 4 [.bool false, .nsl 2, .bool false, .nsl 1] 1 [(0, .t 43)], some (38, true), []⟩,
    ⟨some 45, .call 0 (.c (.fn 27 [])) [.t 44], some (38, true), []⟩,
    ⟨some 46, .un .not (.t 45), some (38, true), []⟩,
    ⟨some 47, .pick (.t 38) (.t 46) (.c (.bool false)), some (33, false), []⟩,
    ⟨some 48, .pick (.t 33) (.c (.bool true)) (.t 47), none, []⟩] [0, 1, 23, 24, 25, 48])
   (.cond (.t 48) (.seq (.rgn false [⟨some 4, .mov (.c (.bool true)), none, []⟩] [4])
   (.ret))
   (.skip)))))
   (.rgn false [⟨some 49, .bin .add 0 (.t 25) (.c (.int .i64 (1))), none, []⟩,
    ⟨some 25, .mov (.t 49), none, []⟩] [0, 1, 23, 24, 25])))))))
   (.seq (.rgn false [⟨some 51, .mov (.t 0), none, []⟩,
    ⟨some 52, .mov (.t 1), none, []⟩,
    ⟨some 53, .call 0 (.c (.fn 13 [])) [.t 51, .t 52], none, []⟩,
    ⟨some 50, .mov (.t 53), none, []⟩,
    ⟨some 54, .ext (.t 50) 0, none, []⟩,
    ⟨some 55, .ext (.t 50) 1, none, []⟩,
    ⟨some 56, .ext (.t 50) 2, none, []⟩,
    ⟨some 57, .ext (.t 50) 3, none, []⟩,
    ⟨some 7, .mov (.t 54), none, []⟩,
    ⟨some 8, .mov (.t 55), none, []⟩,
    ⟨some 9, .mov (.t 56), none, []⟩,
    ⟨some 10, .mov (.t 57), none, []⟩] [0, 1, 7, 8, 9, 10])
   (.seq (.rgn false [⟨some 59, .mov (.t 0), none, []⟩,
    ⟨some 60, .mov (.t 1), none, []⟩,
    ⟨some 61, .call 0 (.c (.fn 95 [])) [.t 59, .t 60], none, []⟩,
    ⟨some 58, .mov (.t 61), none, []⟩,
    ⟨some 62, .ext (.t 58) 0, none, []⟩,
    ⟨some 63, .ext (.t 58) 1, none, []⟩,
    ⟨some 64, .ext (.t 58) 2, none, []⟩,
    ⟨some 65, .ext (.t 58) 3, none, []⟩,
    ⟨some 11, .mov (.t 62), none, []⟩,
    ⟨some 12, .mov (.t 63), none, []⟩,
    ⟨some 13, .mov (.t 64), none, []⟩,
    ⟨some 14, .mov (.t 65), none, []⟩] [7, 8, 9, 10, 11, 12, 13, 14])
   (.seq (.rgn false [⟨some 66, .mov (.t 7), none, []⟩,
    ⟨some 67, .mov (.t 11), none, []⟩,
    ⟨some 68, .bin .eql 0 (.t 66) (.t 67), none, []⟩,
    ⟨some 69, .mov (.t 68), none, []⟩,
    ⟨some 70, .mov (.t 8), some (69, true), []⟩,
    ⟨some 71, .mov (.t 12), some (69, true), []⟩,
    ⟨some 72, .bin .eql 0 (.t 70) (.t 71), some (69, true), []⟩,
    ⟨some 73, .pick (.t 69) (.t 72) (.c (.bool false)), none, []⟩,
    ⟨some 74, .mov (.t 73), none, []⟩,
    ⟨some 75, .mov (.t 9), some (74, true), []⟩,
    ⟨some 76, .mov (.t 13), some (74, true), []⟩,
    ⟨some 77, .bin .eql 1 (.t 75) (.t 76), some (74, true), []⟩,
    ⟨some 78, .pick (.t 74) (.t 77) (.c (.bool false)), none, []⟩,
    ⟨some 79, .mov (.t 78), none, []⟩,
    ⟨some 80, .mov (.t 10), some (79, true), []⟩,
    ⟨some 81, .mov (.t 14), some (79, true), []⟩,
    ⟨some 82, .bin .eql 1 (.t 80) (.t 81), some (79, true), []⟩,
    ⟨some 83, .pick (.t 79) (.t 82) (.c (.bool false)), none, []⟩,
    ⟨some 4, .mov (.t 83), none, []⟩] [4])
   (.ret)))))), none⟩
/-- arbour/arbourref13.Perfect -/
def F92 : IFn := ⟨2, [.t 4, .t 5],
   .seq (.rgn false [⟨some 4, .nil0 16, none, []⟩,
    ⟨some 5, .mov (.c (.bool false)), none, []⟩] [0, 1])
   (.seq (.rgn false [⟨some 9, .mov (.t 0), none, []⟩,
    ⟨some 10, .mov (.t 1), none, []⟩,
    ⟨some 11, .call 0 (.c (.fn 96 [])) [.t 9, .t 10], none, []⟩,
    ⟨some 6, .mov (.t 11), none, []⟩] [0, 1, 6])
   (.seq (.seq (.rgn false [⟨some 12, .mov (.t 6), none, []⟩,
    ⟨some 13, .bin .lss 0 (.t 12) (.c (.int .i64 (0))), none, []⟩] [0, 1, 6, 13])
   (.cond (.t 13) (.seq (.rgn false [⟨some 4, .nil0 16, none, []⟩,
    ⟨some 5, .mov (.c (.bool false)), none, []⟩] [4, 5])
   (.ret))
   (.skip)))
   (.seq (.rgn true [⟨some 14, .mov (.t 0), none, []⟩,
    ⟨some 15, .mov (.t 6), none, []⟩,
    ⟨some 16, .isl 16 (.t 14) (.c (.int .i64 (0))), none, [0]⟩,
    ⟨some 17, .iarr 4 4 (.t 16) (.t 15), none, [0, 1, 2]⟩,
    ⟨some 18, .load true 4 (.t 17), none, [0, 1, 2, 3]⟩,
    ⟨some 19, .mov (.t 1), none, []⟩,
    ⟨some 20, .mov (.t 6), none, []⟩,
    ⟨some 21, .isl 16 (.t 19) (.c (.int .i64 (0))), none, [5]⟩,
    ⟨some 22, .iarr 4 4 (.t 21) (.t 20), none, [5, 6, 7]⟩,
    ⟨some 23, .load true 4 (.t 22), none, [5, 6, 7, 8]⟩,
    ⟨some 24, .call 3 (.c (.fn 97 [])) [.t 18, .t 23], none, [0, 1, 2, 3, 4, 5, 6, 7, 8, 9]⟩,
    ⟨some 7, .alloc [.bool false, .nsl 2, .bool false, .nsl 1], none, []⟩,
    ⟨none, .store 4 (.t 7) (.t 24), none, [0, 1, 2, 3, 4, 5, 6, 7, 8, 9, 10, 11]⟩] [0, 1, 6, 7])
   (.seq (.seq (.rgn true [⟨some 25, .load true 4 (.t 7), none, []⟩,
    ⟨some 26, .call 0 (.c (.fn 106 [])) [.t 25], none, [0]⟩,
    ⟨some 27, .un .not (.t 26), none, [0, 1]⟩,
    ⟨some 28, .mov (.t 27), none, [0, 1, 2]⟩,
    ⟨some 29, .fadr 1 (.t 7), some (28, false), [0, 1, 2, 3]⟩,
    ⟨some 30, .load false 1 (.t 29), some (28, false), [0, 1, 2, 3, 4]⟩,
    ⟨some 31, .len false (.t 30), some (28, false), [0, 1, 2, 3, 4, 5]⟩,
    ⟨some 32, .mov (.t 0), some (28, false), [0, 1, 2, 3]⟩,
    ⟨some 33, .mov (.t 6), some (28, false), [0, 1, 2, 3]⟩,
    ⟨some 34, .isl 16 (.t 32) (.c (.int .i64 (0))), some (28, false), [0, 1, 2, 3, 7]⟩,
    ⟨some 35, .iarr 4 4 (.t 34) (.t 33), some (28, false), [0, 1, 2, 3, 7, 8, 9]⟩,
    ⟨some 36, .fadr 1 (.t 35), some (28, false), [0, 1, 2, 3, 7, 8, 9, 10]⟩,
    ⟨some 37, .load false 1 (.t 36), some (28, false), [0, 1, 2, 3, 7, 8, 9, 10, 11]⟩,
    ⟨some 38, .len false (.t 37), some (28, false), [0, 1, 2, 3, 7, 8, 9, 10, 11, 12]⟩,
    ⟨some 39, .bin .gtr 0 (.t 31) (.t 38), some (28, false), [0, 1, 2, 3, 4, 5, 6, 7, 8, 9, 10, 11, 12, 13]⟩,
    ⟨some 40, .mov (.t 39), some (28, false), [0, 1, 2, 3, 4, 5, 6, 7, 8, 9, 10, 11, 12, 13, 14]⟩,
    ⟨some 41, .fadr 1 (.t 7), some (40, true), [0, 1, 2, 3, 4, 5, 6, 7, 8, 9, 10, 11, 12, 13, 14, 15]⟩,
    ⟨some 42, .load false 1 (.t 41), some (40, true), [0, 1, 2, 3, 4, 5, 6, 7, 8, 9, 10, 11, 12, 13, 14, 15, 16]⟩,
    ⟨some 43, .len false (.t 42), some (40, true), [0, 1, 2, 3, 4, 5, 6, 7, 8, 9, 10, 11, 12, 13, 14, 15, 16, 17]⟩,
    ⟨some 44, .mov (.t 1), some (40, true), [0, 1, 2, 3, 4, 5, 6, 7, 8, 9, 10, 11, 12, 13, 14, 15]⟩,
    ⟨some 45, .mov (.t 6), some (40, true), [0, 1, 2, 3, 4, 5, 6, 7, 8, 9, 10, 11, 12, 13, 14, 15]⟩,
    ⟨some 46, .isl 16 (.t 44) (.c (.int .i64 (0))), some (40, true), [0, 1, 2, 3, 4, 5, 6, 7, 8, 9, 10, 11, 12, 13, 14, 15, 19]⟩,
    ⟨some 47, .iarr 4 4 (.t 46) (.t 45), some (40, true), [0, 1, 2, 3, 4, 5, 6, 7, 8, 9, 10, 11, 12, 13, 14, 15, 19, 20, 21]⟩,
    ⟨some 48, .fadr 1 (.t 47), some (40, true), [0, 1, 2, 3, 4, 5, 6, 7, 8, 9, 10, 11, 12, 13, 14, 15, 19, 20, 21, 22]⟩,
    ⟨some 49, .load false 1 (.t 48), some (40, true), [0, 1, 2, 3, 4, 5, 6, 7, 8, 9, 10, 11, 12, 13, 14, 15, 19, 20, 21, 22, 23]⟩,
    ⟨some 50, .len false (.t 49), some (40, true), [0, 1, 2, 3, 4, 5, 6, 7, 8, 9, 10, 11, 12, 13, 14, 15, 19, 20, 21, 22, 23, 24]⟩,
    ⟨some 51, .bin .gtr 0 (.t 43) (.t 50), some (40, true), [0, 1, 2, 3, 4, 5, 6, 7, 8, 9, 10, 11, 12, 13, 14, 15, 16, 17, 18, 19, 20, 21, 22, 23, 24, 25]⟩,
    ⟨some 52, .pick (.t 40) (.t 51) (.c (.bool false)), some (28, false), [0, 1, 2, 3, 4, 5, 6, 7, 8, 9, 10, 11, 12, 13, 14, 15, 16, 17, 18, 19, 20, 21, 22, 23, 24, 25, 26]⟩,
    ⟨some 53, .pick (.t 28) (.c (.bool true)) (.t 52), none, [0, 1, 2, 3, 4, 5, 6, 7, 8, 9, 10, 11, 12, 13, 14, 15, 16, 17, 18, 19, 20, 21, 22, 23, 24, 25, 26, 27]⟩] [0, 6, 7, 53])
   (.cond (.t 53) (.seq (.rgn false [⟨some 4, .nil0 16, none, []⟩,
    ⟨some 5, .mov (.c (.bool false)), none, []⟩] [4, 5])
   (.ret))
   (.skip)))
   (.seq (.rgn false [⟨some 54, .mov (.t 0), none, []⟩,
    ⟨some 55, .isl 16 (.t 54) (.c (.int .i64 (0))), none, []⟩,
    ⟨some 56, .load true 16 (.t 55), none, []⟩,
    ⟨some 8, .alloc [.bool false, .nsl 2, .bool false, .nsl 1, .bool false, .nsl 2, .bool false, .nsl 1, .bool false, .nsl 2, .bool false, .nsl 1, .bool false, .nsl 2, .bool false, .nsl 1], none, []⟩,
    ⟨none, .store 16 (.t 8) (.t 56), none, []⟩] [6, 7, 8])
   (.seq (.rgn false [⟨some 57, .mov (.t 6), none, []⟩,
    ⟨some 58, .load true 4 (.t 7), none, []⟩,
    ⟨some 59, .iarr 4 4 (.t 8) (.t 57), none, []⟩,
    ⟨none, .store 4 (.t 59) (.t 58), none, []⟩] [8])
   (.seq (.rgn false [⟨some 60, .load true 16 (.t 8), none, []⟩,
    ⟨some 61, .bsl 16 [.bool false, .nsl 2, .bool false, .nsl 1, .bool false, .nsl 2, .bool false, .nsl 1, .bool false, .nsl 2, .bool false, .nsl 1, .bool false, .nsl 2, .bool false, .nsl 1] 1 [(0, .t 60)], none, []⟩,
    ⟨some 4, .mov (.t 61), none, []⟩,
    ⟨some 5, .mov (.c (.bool true)), none, []⟩] [4, 5])
   (.ret)))))))), none⟩
/-- arbour/arbourref13.Hull -/
def F93 : IFn := ⟨2, [.t 4, .t 5, .t 6],
   .seq (.rgn false [⟨some 4, .nil0 16, none, []⟩,
    ⟨some 5, .mov (.c (.int .u64 (0))), none, []⟩,
    ⟨some 6, .mov (.c (.bool false)), none, []⟩] [0, 1])
   (.seq (.rgn false [⟨some 16, .mov (.t 0), none, []⟩,
    ⟨some 17, .mov (.t 1), none, []⟩,
    ⟨some 18, .call 0 (.c (.fn 96 [])) [.t 16, .t 17], none, []⟩,
    ⟨some 7, .mov (.t 18), none, []⟩] [0, 1, 7])
   (.seq (.seq (.rgn false [⟨some 19, .mov (.t 7), none, []⟩,
    ⟨some 20, .bin .lss 0 (.t 19) (.c (.int .i64 (0))), none, []⟩] [0, 1, 7, 20])
   (.cond (.t 20) (.seq (.rgn false [⟨some 4, .nil0 16, none, []⟩,
    ⟨some 5, .mov (.c (.int .u64 (0))), none, []⟩,
    ⟨some 6, .mov (.c (.bool false)), none, []⟩] [4, 5, 6])
   (.ret))
   (.skip)))
   (.seq (.rgn true [⟨some 21, .mov (.t 0), none, []⟩,
    ⟨some 22, .mov (.t 7), none, []⟩,
    ⟨some 23, .isl 16 (.t 21) (.c (.int .i64 (0))), none, [0]⟩,
    ⟨some 24, .iarr 4 4 (.t 23) (.t 22), none, [0, 1, 2]⟩,
    ⟨some 25, .load true 4 (.t 24), none, [0, 1, 2, 3]⟩,
    ⟨some 26, .mov (.t 1), none, []⟩,
    ⟨some 27, .mov (.t 7), none, []⟩,
    ⟨some 28, .isl 16 (.t 26) (.c (.int .i64 (0))), none, [5]⟩,
    ⟨some 29, .iarr 4 4 (.t 28) (.t 27), none, [5, 6, 7]⟩,
    ⟨some 30, .load true 4 (.t 29), none, [5, 6, 7, 8]⟩,
    ⟨some 8, .alloc [.bool false, .nsl 2, .bool false, .nsl 1], none, []⟩,
    ⟨some 9, .alloc [.bool false, .nsl 2, .bool false, .nsl 1], none, []⟩,
    ⟨none, .store 4 (.t 8) (.t 25), none, [0, 1, 2, 3, 4, 10, 11]⟩,
    ⟨none, .store 4 (.t 9) (.t 30), none, [0, 1, 2, 3, 4, 5, 6, 7, 8, 9, 10, 11, 12]⟩] [0, 7, 8, 9])
   (.seq (.seq (.rgn false [⟨some 31, .fadr 1 (.t 8), none, []⟩,
    ⟨some 32, .load false 1 (.t 31), none, []⟩,
    ⟨some 33, .len false (.t 32), none, []⟩,
    ⟨some 34, .bin .neq 0 (.t 33) (.c (.int .i64 (1))), none, []⟩,
    ⟨some 35, .mov (.t 34), none, []⟩,
    ⟨some 36, .fadr 1 (.t 9), some (35, false), []⟩,
    ⟨some 37, .load false 1 (.t 36), some (35, false), []⟩,
    ⟨some 38, .len false (.t 37), some (35, false), []⟩,
    ⟨some 39, .bin .neq 0 (.t 38) (.c (.int .i64 (1))), some (35, false), []⟩,
    ⟨some 40, .pick (.t 35) (.c (.bool true)) (.t 39), none, []⟩] [0, 7, 8, 9, 40])
   (.cond (.t 40) (.seq (.rgn false [⟨some 4, .nil0 16, none, []⟩,
    ⟨some 5, .mov (.c (.int .u64 (0))), none, []⟩,
    ⟨some 6, .mov (.c (.bool false)), none, []⟩] [4, 5, 6])
   (.ret))
   (.skip)))
   (.seq (.rgn false [⟨some 41, .load true 4 (.t 9), none, []⟩,
    ⟨some 10, .alloc [.bool false, .nsl 2, .bool false, .nsl 1], none, []⟩,
    ⟨none, .store 4 (.t 10) (.t 41), none, []⟩] [0, 7, 8, 9, 10])
   (.seq (.rgn false [⟨some 42, .fadr 1 (.t 8), none, []⟩,
    ⟨some 43, .load false 1 (.t 42), none, []⟩,
    ⟨some 44, .fadr 1 (.t 10), none, []⟩,
    ⟨none, .store 1 (.t 44) (.t 43), none, []⟩] [0, 7, 8, 9, 10])
   (.seq (.seq (.rgn false [⟨some 45, .load true 4 (.t 8), none, []⟩,
    ⟨some 46, .load true 4 (.t 10), none, []⟩,
    ⟨some 47, .call 0 (.c (.fn 41 [])) [.t 45, .t 46], none, []⟩,
    ⟨some 48, .un .not (.t 47), none, []⟩] [0, 7, 8, 9, 48])
   (.cond (.t 48) (.seq (.rgn false [⟨some 4, .nil0 16, none, []⟩,
    ⟨some 5, .mov (.c (.int .u64 (0))), none, []⟩,
    ⟨some 6, .mov (.c (.bool false)), none, []⟩] [4, 5, 6])
   (.ret))
   (.skip)))
   (.seq (.rgn true [⟨some 49, .fadr 1 (.t 8), none, []⟩,
    ⟨some 50, .load false 1 (.t 49), none, [0]⟩,
    ⟨some 51, .isl 2 (.t 50) (.c (.int .i64 (0))), none, [0, 1]⟩,
    ⟨some 52, .load true 2 (.t 51), none, [0, 1, 2]⟩,
    ⟨some 53, .fadr 1 (.t 9), none, []⟩,
    ⟨some 54, .load false 1 (.t 53), none, [4]⟩,
    ⟨some 55, .isl 2 (.t 54) (.c (.int .i64 (0))), none, [4, 5]⟩,
    ⟨some 56, .load true 2 (.t 55), none, [4, 5, 6]⟩,
    ⟨some 11, .alloc [.int .i64 0, .int .i64 0], none, []⟩,
    ⟨some 12, .alloc [.int .i64 0, .int .i64 0], none, []⟩,
    ⟨none, .store 2 (.t 11) (.t 52), none, [0, 1, 2, 3, 8, 9]⟩,
    ⟨none, .store 2 (.t 12) (.t 56), none, [0, 1, 2, 3, 4, 5, 6, 7, 8, 9, 10]⟩] [0, 7, 8, 11, 12])
   (.seq (.seq (.rgn false [⟨some 57, .fadr 0 (.t 12), none, []⟩,
    ⟨some 58, .load false 1 (.t 57), none, []⟩,
    ⟨some 59, .fadr 0 (.t 11), none, []⟩,
    ⟨some 60, .load false 1 (.t 59), none, []⟩,
    ⟨some 61, .bin .lss 0 (.t 58) (.t 60), none, []⟩] [0, 7, 8, 11, 12, 61])
   (.cond (.t 61) (.rgn false [⟨some 62, .load true 2 (.t 12), none, []⟩,
    ⟨some 63, .load true 2 (.t 11), none, []⟩,
    ⟨none, .store 2 (.t 11) (.t 62), none, []⟩,
    ⟨none, .store 2 (.t 12) (.t 63), none, []⟩] [0, 7, 8, 11, 12])
   (.skip)))
   (.seq (.rgn false [⟨some 65, .load true 2 (.t 11), none, []⟩,
    ⟨some 66, .load true 2 (.t 12), none, []⟩,
    ⟨some 67, .call 0 (.c (.fn 112 [])) [.t 65, .t 66], none, []⟩,
    ⟨some 64, .mov (.t 67), none, []⟩,
    ⟨some 68, .ext (.t 64) 0, none, []⟩,
    ⟨some 69, .ext (.t 64) 1, none, []⟩,
    ⟨some 13, .mov (.t 68), none, []⟩,
    ⟨some 14, .mov (.t 69), none, []⟩] [0, 7, 8, 11, 12, 13, 14])
   (.seq (.seq (.rgn false [⟨some 70, .mov (.t 14), none, []⟩,
    ⟨some 71, .un .not (.t 70), none, []⟩,
    ⟨some 72, .mov (.t 71), none, []⟩,
    ⟨some 73, .fadr 1 (.t 11), some (72, false), []⟩,
    ⟨some 74, .load false 1 (.t 73), some (72, false), []⟩,
    ⟨some 75, .bin .add 0 (.t 74) (.c (.int .i64 (1))), some (72, false), []⟩,
    ⟨some 76, .fadr 0 (.t 12), some (72, false), []⟩,
    ⟨some 77, .load false 1 (.t 76), some (72, false), []⟩,
    ⟨some 78, .bin .eql 0 (.t 75) (.t 77), some (72, false), []⟩,
    ⟨some 79, .pick (.t 72) (.c (.bool true)) (.t 78), none, []⟩] [0, 7, 8, 11, 12, 13, 79])
   (.cond (.t 79) (.seq (.rgn false [⟨some 4, .nil0 16, none, []⟩,
    ⟨some 5, .mov (.c (.int .u64 (0))), none, []⟩,
    ⟨some 6, .mov (.c (.bool false)), none, []⟩] [4, 5, 6])
   (.ret))
   (.skip)))
   (.seq (.rgn false [⟨some 80, .mov (.t 0), none, []⟩,
    ⟨some 81, .isl 16 (.t 80) (.c (.int .i64 (0))), none, []⟩,
    ⟨some 82, .load true 16 (.t 81), none, []⟩,
    ⟨some 15, .alloc [.bool false, .nsl 2, .bool false, .nsl 1, .bool false, .nsl 2, .bool false, .nsl 1, .bool false, .nsl 2, .bool false, .nsl 1, .bool false, .nsl 2, .bool false, .nsl 1], none, []⟩,
    ⟨none, .store 16 (.t 15) (.t 82), none, []⟩] [7, 8, 11, 12, 13, 15])
   (.seq (.rgn false [⟨some 83, .mov (.t 7), none, []⟩,
    ⟨some 84, .fadr 0 (.t 8), none, []⟩,
    ⟨some 85, .load false 1 (.t 84), none, []⟩,
    ⟨some 86, .fadr 0 (.t 11), none, []⟩,
    ⟨some 87, .load false 1 (.t 86), none, []⟩,
    ⟨some 88, .fadr 1 (.t 12), none, []⟩,
    ⟨some 89, .load false 1 (.t 88), none, []⟩,
    ⟨some 90, .build [.int .i64 0, .int .i64 0] [(0, 1, .t 87), (1, 1, .t 89)], none, []⟩,
    ⟨some 91, .bsl 2 [.int .i64 0, .int .i64 0] 1 [(0, .t 90)], none, []⟩,
    ⟨some 92, .fadr 2 (.t 8), none, []⟩,
    ⟨some 93, .load false 1 (.t 92), none, []⟩,
    ⟨some 94, .fadr 3 (.t 8), none, []⟩,
    ⟨some 95, .load false 1 (.t 94), none, []⟩,
    ⟨some 96, .build [.bool false, .nsl 2, .bool false, .nsl 1] [(0, 1, .t 85), (1, 1, .t 91), (2, 1, .t 93), (3, 1, .t 95)], none, []⟩,
    ⟨some 97, .iarr 4 4 (.t 15) (.t 83), none, []⟩,
    ⟨none, .store 4 (.t 97) (.t 96), none, []⟩] [13, 15])
   (.seq (.rgn false [⟨some 98, .load true 16 (.t 15), none, []⟩,
    ⟨some 99, .bsl 16 [.bool false, .nsl 2, .bool false, .nsl 1, .bool false, .nsl 2, .bool false, .nsl 1, .bool false, .nsl 2, .bool false, .nsl 1, .bool false, .nsl 2, .bool false, .nsl 1] 1 [(0, .t 98)], none, []⟩,
    ⟨some 100, .mov (.t 13), none, []⟩,
    ⟨some 4, .mov (.t 99), none, []⟩,
    ⟨some 5, .mov (.t 100), none, []⟩,
    ⟨some 6, .mov (.c (.bool true)), none, []⟩] [4, 5, 6])
   (.ret))))))))))))))), none⟩
/-- arbour/arbourref13.Entries -/
def F94 : IFn := ⟨3, [.cell 6 true 3, .t 7],
   .seq (.rgn false [⟨some 3, .box (.t 0), none, []⟩,
    ⟨some 4, .box (.t 1), none, []⟩,
    ⟨some 6, .alloc [.int .i64 0, .nsl 16, .int .u64 0], none, []⟩,
    ⟨some 7, .mov (.c (.bool false)), none, []⟩] [2, 3, 4, 6])
   (.seq (.rgn false [⟨some 12, .fadr 2 (.t 3), none, []⟩,
    ⟨some 13, .load false 1 (.t 12), none, []⟩,
    ⟨some 14, .fadr 2 (.t 4), none, []⟩,
    ⟨some 15, .load false 1 (.t 14), none, []⟩,
    ⟨some 16, .mx (.t 13) [.t 15], none, []⟩,
    ⟨some 8, .mov (.t 16), none, []⟩] [2, 3, 4, 6, 8])
   (.seq (.rgn false [⟨some 18, .fadr 1 (.t 3), none, []⟩,
    ⟨some 19, .load false 1 (.t 18), none, []⟩,
    ⟨some 20, .fadr 1 (.t 4), none, []⟩,
    ⟨some 21, .load false 1 (.t 20), none, []⟩,
    ⟨some 22, .call 3 (.c (.fn 92 [])) [.t 19, .t 21], none, []⟩,
    ⟨some 17, .mov (.t 22), none, []⟩,
    ⟨some 23, .ext (.t 17) 0, none, []⟩,
    ⟨some 24, .ext (.t 17) 1, none, []⟩,
    ⟨some 9, .mov (.t 23), none, []⟩,
    ⟨some 10, .mov (.t 24), none, []⟩] [2, 3, 4, 6, 8, 9, 10])
   (.seq (.seq (.rgn false [⟨some 25, .mov (.t 10), none, []⟩,
    ⟨some 26, .un .not (.t 25), none, []⟩] [2, 3, 4, 6, 8, 9, 10, 26])
   (.cond (.t 26) (.seq (.rgn false [⟨some 11, .mov (.c (.int .u64 (0))), none, []⟩] [2, 3, 4, 6, 8])
   (.seq (.rgn false [⟨some 28, .fadr 1 (.t 3), none, []⟩,
    ⟨some 29, .load false 1 (.t 28), none, []⟩,
    ⟨some 30, .fadr 1 (.t 4), none, []⟩,
    ⟨some 31, .load false 1 (.t 30), none, []⟩,
    ⟨some 32, .call 3 (.c (.fn 93 [])) [.t 29, .t 31], none, []⟩,
    ⟨some 27, .mov (.t 32), none, []⟩,
    ⟨some 33, .ext (.t 27) 0, none, []⟩,
    ⟨some 34, .ext (.t 27) 1, none, []⟩,
    ⟨some 35, .ext (.t 27) 2, none, []⟩,
    ⟨some 9, .mov (.t 33), none, []⟩,
    ⟨some 11, .mov (.t 34), none, []⟩,
    ⟨some 10, .mov (.t 35), none, []⟩] [2, 6, 8, 9, 10, 11])
   (.rgn false [⟨some 36, .mov (.t 8), none, []⟩,
    ⟨some 37, .mov (.t 11), none, []⟩,
    ⟨some 38, .call 0 (.c (.fn 28 [])) [.t 36, .t 37], none, []⟩,
    ⟨some 8, .mov (.t 38), none, []⟩] [2, 6, 8, 9, 10])))
   (.skip)))
   (.seq (.seq (.rgn false [⟨some 39, .mov (.t 10), none, []⟩,
    ⟨some 40, .un .not (.t 39), none, []⟩,
    ⟨some 41, .mov (.t 40), none, []⟩,
    ⟨some 42, .mov (.t 8), some (41, false), []⟩,
    ⟨some 43, .mov (.t 2), some (41, false), []⟩,
    ⟨some 44, .bin .gtr 0 (.t 42) (.t 43), some (41, false), []⟩,
    ⟨some 45, .pick (.t 41) (.c (.bool true)) (.t 44), none, []⟩,
    ⟨some 46, .mov (.t 45), none, []⟩,
    ⟨some 47, .mov (.t 8), some (46, false), []⟩,
    ⟨some 48, .bin .eql 0 (.t 47) (.c (.int .u64 (18446744073709551615))), some (46, false), []⟩,
    ⟨some 49, .pick (.t 46) (.c (.bool true)) (.t 48), none, []⟩] [6, 8, 9, 49])
   (.cond (.t 49) (.seq (.rgn false [⟨some 50, .build [.int .i64 0, .nsl 16, .int .u64 0] [], none, []⟩,
    ⟨none, .store 3 (.t 6) (.t 50), none, []⟩,
    ⟨some 7, .mov (.c (.bool false)), none, []⟩] [6, 7])
   (.ret))
   (.skip)))
   (.seq (.rgn false [⟨some 51, .mov (.t 9), none, []⟩,
    ⟨some 52, .mov (.t 8), none, []⟩,
    ⟨some 53, .build [.int .i64 0, .nsl 16, .int .u64 0] [(1, 1, .t 51), (2, 1, .t 52)], none, []⟩,
    ⟨none, .store 3 (.t 6) (.t 53), none, []⟩,
    ⟨some 7, .mov (.c (.bool true)), none, []⟩] [6, 7])
   (.ret)))))), none⟩
/-- arbour/arbourref13.Best -/
def F95 : IFn := ⟨2, [.t 4, .t 5, .t 6, .t 7],
   .seq (.rgn false [⟨some 4, .mov (.c (.int .i64 (0))), none, []⟩,
    ⟨some 5, .mov (.c (.int .i64 (0))), none, []⟩,
    ⟨some 6, .mov (.c (.bool false)), none, []⟩,
    ⟨some 7, .mov (.c (.bool false)), none, []⟩] [0, 1])
   (.seq (.seq (.rgn false [⟨some 8, .mov (.c (.int .i64 (0))), none, []⟩] [0, 1, 8])
   (.block 0 (.loop [0, 1, 8] (.seq (.seq (.rgn false [⟨some 15, .mov (.t 8), none, []⟩,
    ⟨some 16, .bin .lss 0 (.t 15) (.c (.int .i64 (2))), none, []⟩] [0, 1, 8, 16])
   (.cond (.t 16) (.skip)
   (.exit 0)))
   (.seq (.block 1 (.seq (.rgn false [⟨some 9, .mov (.c (.int .i64 (0))), none, []⟩] [0, 1, 8, 9])
   (.block 2 (.loop [0, 1, 8, 9] (.seq (.seq (.rgn false [⟨some 19, .mov (.t 9), none, []⟩,
    ⟨some 20, .mov (.t 0), none, []⟩,
    ⟨some 21, .len false (.t 20), none, []⟩,
    ⟨some 22, .bin .lss 0 (.t 19) (.t 21), none, []⟩] [0, 1, 8, 9, 22])
   (.cond (.t 22) (.skip)
   (.exit 2)))
   (.seq (.block 3 (.seq (.rgn false [⟨some 25, .mov (.t 9), none, []⟩,
    ⟨some 26, .bin .add 0 (.t 25) (.c (.int .i64 (1))), none, []⟩,
    ⟨some 10, .mov (.t 26), none, []⟩] [0, 1, 8, 9, 10])
   (.block 4 (.loop [0, 1, 8, 9, 10] (.seq (.seq (.rgn false [⟨some 27, .mov (.t 10), none, []⟩,
    ⟨some 28, .mov (.t 0), none, []⟩,
    ⟨some 29, .len false (.t 28), none, []⟩,
    ⟨some 30, .bin .lss 0 (.t 27) (.t 29), none, []⟩] [0, 1, 8, 9, 10, 30])
   (.cond (.t 30) (.skip)
   (.exit 4)))
   (.seq (.block 5 (.seq (.rgn true [⟨some 34, .mov (.t 0), none, []⟩,
    ⟨some 35, .mov (.t 9), none, []⟩,
    ⟨some 36, .isl 3 (.t 34) (.t 35), none, [0, 1]⟩,
    ⟨some 37, .fadr 1 (.t 36), none, [0, 1, 2]⟩,
    ⟨some 38, .load false 1 (.t 37), none, [0, 1, 2, 3]⟩,
    ⟨some 39, .mov (.t 0), none, []⟩,
    ⟨some 40, .mov (.t 10), none, []⟩,
    ⟨some 41, .isl 3 (.t 39) (.t 40), none, [5, 6]⟩,
    ⟨some 42, .fadr 1 (.t 41), none, [5, 6, 7]⟩,
    ⟨some 43, .load false 1 (.t 42), none, [5, 6, 7, 8]⟩,
    ⟨some 44, .call 3 (.c (.fn 92 [])) [.t 38, .t 43], none, [0, 1, 2, 3, 4, 5, 6, 7, 8, 9]⟩,
    ⟨some 33, .mov (.t 44), none, [0, 1, 2, 3, 4, 5, 6, 7, 8, 9, 10]⟩,
    ⟨some 45, .ext (.t 33) 0, none, [0, 1, 2, 3, 4, 5, 6, 7, 8, 9, 10, 11]⟩,
    ⟨some 46, .ext (.t 33) 1, none, [0, 1, 2, 3, 4, 5, 6, 7, 8, 9, 10, 11]⟩,
    ⟨some 11, .mov (.t 45), none, [0, 1, 2, 3, 4, 5, 6, 7, 8, 9, 10, 11, 12]⟩,
    ⟨some 12, .mov (.t 46), none, [0, 1, 2, 3, 4, 5, 6, 7, 8, 9, 10, 11, 12, 13, 14]⟩] [0, 1, 8, 9, 10, 12])
   (.seq (.rgn true [⟨some 48, .mov (.t 0), none, []⟩,
    ⟨some 49, .mov (.t 9), none, []⟩,
    ⟨some 50, .isl 3 (.t 48) (.t 49), none, [0, 1]⟩,
    ⟨some 51, .load true 3 (.t 50), none, [0, 1, 2]⟩,
    ⟨some 52, .mov (.t 0), none, []⟩,
    ⟨some 53, .mov (.t 10), none, []⟩,
    ⟨some 54, .isl 3 (.t 52) (.t 53), none, [4, 5]⟩,
    ⟨some 55, .load true 3 (.t 54), none, [4, 5, 6]⟩,
    ⟨some 56, .mov (.t 1), none, []⟩,
    ⟨some 57, .call 3 (.c (.fn 94 [])) [.t 51, .t 55, .t 56], none, [0, 1, 2, 3, 4, 5, 6, 7, 8]⟩,
    ⟨some 47, .mov (.t 57), none, [0, 1, 2, 3, 4, 5, 6, 7, 8, 9]⟩,
    ⟨some 58, .ext (.t 47) 0, none, [0, 1, 2, 3, 4, 5, 6, 7, 8, 9, 10]⟩,
    ⟨some 59, .ext (.t 47) 1, none, [0, 1, 2, 3, 4, 5, 6, 7, 8, 9, 10]⟩,
    ⟨some 13, .alloc [.int .i64 0, .nsl 16, .int .u64 0], none, []⟩,
    ⟨none, .store 3 (.t 13) (.t 58), none, [0, 1, 2, 3, 4, 5, 6, 7, 8, 9, 10, 11, 13]⟩,
    ⟨some 14, .mov (.t 59), none, [0, 1, 2, 3, 4, 5, 6, 7, 8, 9, 10, 11, 12, 13, 14]⟩] [0, 1, 8, 9, 10, 12, 14])
   (.seq (.rgn false [⟨some 60, .mov (.t 14), none, []⟩,
    ⟨some 61, .mov (.t 60), none, []⟩,
    ⟨some 62, .mov (.t 12), some (61, true), []⟩,
    ⟨some 63, .mov (.t 62), some (61, true), []⟩,
    ⟨some 64, .mov (.t 8), some (63, false), []⟩,
    ⟨some 65, .bin .eql 0 (.t 64) (.c (.int .i64 (1))), some (63, false), []⟩,
    ⟨some 66, .pick (.t 63) (.c (.bool true)) (.t 65), some (61, true), []⟩,
    ⟨some 67, .pick (.t 61) (.t 66) (.c (.bool false)), none, []⟩] [0, 1, 8, 9, 10, 12, 67])
   (.cond (.t 67) (.seq (.rgn false [⟨some 68, .mov (.t 9), none, []⟩,
    ⟨some 69, .mov (.t 10), none, []⟩,
    ⟨some 70, .mov (.t 12), none, []⟩,
    ⟨some 4, .mov (.t 68), none, []⟩,
    ⟨some 5, .mov (.t 69), none, []⟩,
    ⟨some 6, .mov (.t 70), none, []⟩,
    ⟨some 7, .mov (.c (.bool true)), none, []⟩] [4, 5, 6, 7])
   (.ret))
   (.skip))))))
   (.rgn false [⟨some 31, .mov (.t 10), none, []⟩,
    ⟨some 32, .bin .add 0 (.t 31) (.c (.int .i64 (1))), none, []⟩,
    ⟨some 10, .mov (.t 32), none, []⟩] [0, 1, 8, 9, 10])))))))
   (.rgn false [⟨some 23, .mov (.t 9), none, []⟩,
    ⟨some 24, .bin .add 0 (.t 23) (.c (.int .i64 (1))), none, []⟩,
    ⟨some 9, .mov (.t 24), none, []⟩] [0, 1, 8, 9])))))))
   (.rgn false [⟨some 17, .mov (.t 8), none, []⟩,
    ⟨some 18, .bin .add 0 (.t 17) (.c (.int .i64 (1))), none, []⟩,
    ⟨some 8, .mov (.t 18), none, []⟩] [0, 1, 8]))))))
   (.seq (.rgn false [⟨some 4, .mov (.c (.int .i64 (0))), none, []⟩,
    ⟨some 5, .mov (.c (.int .i64 (0))), none, []⟩,
    ⟨some 6, .mov (.c (.bool false)), none, []⟩,
    ⟨some 7, .mov (.c (.bool false)), none, []⟩] [4, 5, 6, 7])
   (.ret))), none⟩
/-- arbour/arbourref13.beside -/
def F96 : IFn := ⟨2, [.t 4],
   .seq (.rgn false [⟨some 4, .mov (.c (.int .i64 (0))), none, []⟩] [0, 1])
   (.seq (.seq (.rgn false [⟨some 7, .mov (.t 0), none, []⟩,
    ⟨some 8, .call 0 (.c (.fn 98 [])) [.t 7], none, []⟩,
    ⟨some 9, .un .not (.t 8), none, []⟩,
    ⟨some 10, .mov (.t 9), none, []⟩,
    ⟨some 11, .mov (.t 1), some (10, false), []⟩,
    ⟨some 12, .call 0 (.c (.fn 98 [])) [.t 11], some (10, false), []⟩,
    ⟨some 13, .un .not (.t 12), some (10, false), []⟩,
    ⟨some 14, .pick (.t 10) (.c (.bool true)) (.t 13), none, []⟩,
    ⟨some 15, .mov (.t 14), none, []⟩,
    ⟨some 16, .mov (.t 0), some (15, false), []⟩,
    ⟨some 17, .len false (.t 16), some (15, false), []⟩,
    ⟨some 18, .bin .neq 0 (.t 17) (.c (.int .i64 (1))), some (15, false), []⟩,
    ⟨some 19, .pick (.t 15) (.c (.bool true)) (.t 18), none, []⟩,
    ⟨some 20, .mov (.t 19), none, []⟩,
    ⟨some 21, .mov (.t 1), some (20, false), []⟩,
    ⟨some 22, .len false (.t 21), some (20, false), []⟩,
    ⟨some 23, .bin .neq 0 (.t 22) (.c (.int .i64 (1))), some (20, false), []⟩,
    ⟨some 24, .pick (.t 20) (.c (.bool true)) (.t 23), none, []⟩] [0, 1, 24])
   (.cond (.t 24) (.seq (.rgn false [⟨some 4, .mov (.c (.int .i64 (-1))), none, []⟩] [4])
   (.ret))
   (.skip)))
   (.seq (.rgn true [⟨some 26, .mov (.t 0), none, []⟩,
    ⟨some 27, .isl 16 (.t 26) (.c (.int .i64 (0))), none, [0]⟩,
    ⟨some 28, .load true 16 (.t 27), none, [0, 1]⟩,
    ⟨some 29, .mov (.t 1), none, []⟩,
    ⟨some 30, .isl 16 (.t 29) (.c (.int .i64 (0))), none, [3]⟩,
    ⟨some 31, .load true 16 (.t 30), none, [3, 4]⟩,
    ⟨some 32, .call 0 (.c (.fn 102 [])) [.t 28, .t 31], none, [0, 1, 2, 3, 4, 5]⟩,
    ⟨some 25, .mov (.t 32), none, [0, 1, 2, 3, 4, 5, 6]⟩,
    ⟨some 33, .ext (.t 25) 0, none, [0, 1, 2, 3, 4, 5, 6, 7]⟩,
    ⟨some 34, .ext (.t 25) 1, none, [0, 1, 2, 3, 4, 5, 6, 7]⟩,
    ⟨some 5, .mov (.t 33), none, [0, 1, 2, 3, 4, 5, 6, 7, 8]⟩,
    ⟨some 6, .mov (.t 34), none, [0, 1, 2, 3, 4, 5, 6, 7, 8, 9, 10]⟩] [5, 6])
   (.seq (.seq (.rgn false [⟨some 35, .mov (.t 5), none, []⟩,
    ⟨some 36, .bin .neq 0 (.t 35) (.c (.int .i64 (1))), none, []⟩] [6, 36])
   (.cond (.t 36) (.seq (.rgn false [⟨some 4, .mov (.c (.int .i64 (-1))), none, []⟩] [4])
   (.ret))
   (.skip)))
   (.seq (.rgn false [⟨some 37, .mov (.t 6), none, []⟩,
    ⟨some 4, .mov (.t 37), none, []⟩] [4])
   (.ret))))), none⟩
/-- arbour/arbourref13.or -/
def F97 : IFn := ⟨2, [.cell 4 true 4],
   .seq (.rgn false [⟨some 2, .box (.t 0), none, []⟩,
    ⟨some 3, .box (.t 1), none, []⟩,
    ⟨some 4, .alloc [.bool false, .nsl 2, .bool false, .nsl 1], none, []⟩] [2, 3, 4])
   (.seq (.rgn false [⟨some 13, .fadr 0 (.t 2), none, []⟩,
    ⟨some 14, .load false 1 (.t 13), none, []⟩,
    ⟨some 15, .mov (.t 14), none, []⟩,
    ⟨some 16, .fadr 0 (.t 3), some (15, false), []⟩,
    ⟨some 17, .load false 1 (.t 16), some (15, false), []⟩,
    ⟨some 18, .pick (.t 15) (.c (.bool true)) (.t 17), none, []⟩,
    ⟨some 19, .fadr 2 (.t 2), none, []⟩,
    ⟨some 20, .load false 1 (.t 19), none, []⟩,
    ⟨some 21, .mov (.t 20), none, []⟩,
    ⟨some 22, .fadr 2 (.t 3), some (21, false), []⟩,
    ⟨some 23, .load false 1 (.t 22), some (21, false), []⟩,
    ⟨some 24, .pick (.t 21) (.c (.bool true)) (.t 23), none, []⟩,
    ⟨some 25, .build [.bool false, .nsl 2, .bool false, .nsl 1] [(0, 1, .t 18), (2, 1, .t 24)], none, []⟩,
    ⟨some 5, .alloc [.bool false, .nsl 2, .bool false, .nsl 1], none, []⟩,
    ⟨none, .store 4 (.t 5) (.t 25), none, []⟩] [2, 3, 4, 5])
   (.seq (.rgn true [⟨some 26, .bsl 2 [.int .i64 0, .int .i64 0] 0 [], none, []⟩,
    ⟨some 27, .fadr 1 (.t 2), none, []⟩,
    ⟨some 28, .load false 1 (.t 27), none, [1]⟩,
    ⟨some 29, .app 2 (.t 26) (.t 28), none, [0, 1, 2]⟩,
    ⟨some 30, .fadr 1 (.t 3), none, []⟩,
    ⟨some 31, .load false 1 (.t 30), none, [4]⟩,
    ⟨some 32, .app 2 (.t 29) (.t 31), none, [0, 1, 2, 3, 4, 5]⟩,
    ⟨some 33, .call 3 (.c (.fn 107 [])) [.t 32], none, [0, 1, 2, 3, 4, 5, 6]⟩,
    ⟨some 34, .fadr 1 (.t 5), none, [0, 1, 2, 3, 4, 5, 6, 7]⟩,
    ⟨none, .store 1 (.t 34) (.t 33), none, [0, 1, 2, 3, 4, 5, 6, 7, 8]⟩] [2, 3, 4, 5])
   (.seq (.rgn false [⟨some 6, .nil0 1, none, []⟩] [2, 3, 4, 5, 6])
   (.seq (.block 0 (.loop [2, 3, 4, 5, 6] (.block 1 (.seq (.rgn false [⟨some 7, .mov (.c (.str ⟨#[]⟩)), none, []⟩] [2, 3, 4, 5, 6, 7])
   (.seq (.rgn false [⟨some 8, .mov (.c (.bool false)), none, []⟩] [2, 3, 4, 5, 6, 7, 8])
   (.seq (.rgn true [⟨some 35, .bsl 1 [.str ⟨#[]⟩] 0 [], none, []⟩,
    ⟨some 36, .fadr 3 (.t 2), none, []⟩,
    ⟨some 37, .load false 1 (.t 36), none, [1]⟩,
    ⟨some 38, .app 1 (.t 35) (.t 37), none, [0, 1, 2]⟩,
    ⟨some 39, .fadr 3 (.t 3), none, []⟩,
    ⟨some 40, .load false 1 (.t 39), none, [4]⟩,
    ⟨some 41, .app 1 (.t 38) (.t 40), none, [0, 1, 2, 3, 4, 5]⟩,
    ⟨some 9, .mov (.t 41), none, [0, 1, 2, 3, 4, 5, 6]⟩] [2, 3, 4, 5, 6, 7, 8, 9])
   (.seq (.seq (.rgn false [⟨some 10, .mov (.c (.int .i64 (0))), none, []⟩] [2, 3, 4, 5, 6, 7, 8, 9, 10])
   (.block 2 (.loop [2, 3, 4, 5, 6, 7, 8, 9, 10] (.seq (.seq (.rgn false [⟨some 42, .mov (.t 10), none, []⟩,
    ⟨some 43, .mov (.t 9), none, []⟩,
    ⟨some 44, .len false (.t 43), none, []⟩,
    ⟨some 45, .bin .lss 0 (.t 42) (.t 44), none, []⟩] [2, 3, 4, 5, 6, 7, 8, 9, 10, 45])
   (.cond (.t 45) (.skip)
   (.exit 2)))
   (.seq (.block 3 (.seq (.rgn true [⟨some 48, .mov (.t 6), none, []⟩,
    ⟨some 49, .len false (.t 48), none, [0]⟩,
    ⟨some 50, .bin .eql 0 (.t 49) (.c (.int .i64 (0))), none, [0, 1]⟩,
    ⟨some 51, .mov (.t 50), none, [0, 1, 2]⟩,
    ⟨some 52, .mov (.t 9), some (51, false), [0, 1, 2, 3]⟩,
    ⟨some 53, .mov (.t 10), some (51, false), [0, 1, 2, 3]⟩,
    ⟨some 54, .isl 1 (.t 52) (.t 53), some (51, false), [0, 1, 2, 3, 4, 5]⟩,
    ⟨some 55, .load false 1 (.t 54), some (51, false), [0, 1, 2, 3, 4, 5, 6]⟩,
    ⟨some 56, .mov (.t 6), some (51, false), [0, 1, 2, 3]⟩,
    ⟨some 57, .mov (.t 6), some (51, false), [0, 1, 2, 3]⟩,
    ⟨some 58, .len false (.t 57), some (51, false), [0, 1, 2, 3, 9]⟩,
    ⟨some 59, .bin .sub 0 (.t 58) (.c (.int .i64 (1))), some (51, false), [0, 1, 2, 3, 9, 10]⟩,
    ⟨some 60, .isl 1 (.t 56) (.t 59), some (51, false), [0, 1, 2, 3, 8, 9, 10, 11]⟩,
    ⟨some 61, .load false 1 (.t 60), some (51, false), [0, 1, 2, 3, 8, 9, 10, 11, 12]⟩,
    ⟨some 62, .bin .gtr 0 (.t 55) (.t 61), some (51, false), [0, 1, 2, 3, 4, 5, 6, 7, 8, 9, 10, 11, 12, 13]⟩,
    ⟨some 63, .pick (.t 51) (.c (.bool true)) (.t 62), none, [0, 1, 2, 3, 4, 5, 6, 7, 8, 9, 10, 11, 12, 13, 14]⟩,
    ⟨some 64, .mov (.t 63), none, [0, 1, 2, 3, 4, 5, 6, 7, 8, 9, 10, 11, 12, 13, 14, 15]⟩,
    ⟨some 65, .mov (.t 8), some (64, true), [0, 1, 2, 3, 4, 5, 6, 7, 8, 9, 10, 11, 12, 13, 14, 15, 16]⟩,
    ⟨some 66, .un .not (.t 65), some (64, true), [0, 1, 2, 3, 4, 5, 6, 7, 8, 9, 10, 11, 12, 13, 14, 15, 16, 17]⟩,
    ⟨some 67, .mov (.t 66), some (64, true), [0, 1, 2, 3, 4, 5, 6, 7, 8, 9, 10, 11, 12, 13, 14, 15, 16, 17, 18]⟩,
    ⟨some 68, .mov (.t 9), some (67, false), [0, 1, 2, 3, 4, 5, 6, 7, 8, 9, 10, 11, 12, 13, 14, 15, 16, 17, 18, 19]⟩,
    ⟨some 69, .mov (.t 10), some (67, false), [0, 1, 2, 3, 4, 5, 6, 7, 8, 9, 10, 11, 12, 13, 14, 15, 16, 17, 18, 19]⟩,
    ⟨some 70, .isl 1 (.t 68) (.t 69), some (67, false), [0, 1, 2, 3, 4, 5, 6, 7, 8, 9, 10, 11, 12, 13, 14, 15, 16, 17, 18, 19, 20, 21]⟩,
    ⟨some 71, .load false 1 (.t 70), some (67, false), [0, 1, 2, 3, 4, 5, 6, 7, 8, 9, 10, 11, 12, 13, 14, 15, 16, 17, 18, 19, 20, 21, 22]⟩,
    ⟨some 72, .mov (.t 7), some (67, false), [0, 1, 2, 3, 4, 5, 6, 7, 8, 9, 10, 11, 12, 13, 14, 15, 16, 17, 18, 19]⟩,
    ⟨some 73, .bin .lss 0 (.t 71) (.t 72), some (67, false), [0, 1, 2, 3, 4, 5, 6, 7, 8, 9, 10, 11, 12, 13, 14, 15, 16, 17, 18, 19, 20, 21, 22, 23, 24]⟩,
    ⟨some 74, .pick (.t 67) (.c (.bool true)) (.t 73), some (64, true), [0, 1, 2, 3, 4, 5, 6, 7, 8, 9, 10, 11, 12, 13, 14, 15, 16, 17, 18, 19, 20, 21, 22, 23, 24, 25]⟩,
    ⟨some 75, .pick (.t 64) (.t 74) (.c (.bool false)), none, [0, 1, 2, 3, 4, 5, 6, 7, 8, 9, 10, 11, 12, 13, 14, 15, 16, 17, 18, 19, 20, 21, 22, 23, 24, 25, 26]⟩] [2, 3, 4, 5, 6, 7, 8, 9, 10, 75])
   (.cond (.t 75) (.seq (.rgn false [⟨some 76, .mov (.t 9), none, []⟩,
    ⟨some 77, .mov (.t 10), none, []⟩,
    ⟨some 78, .isl 1 (.t 76) (.t 77), none, []⟩,
    ⟨some 79, .load false 1 (.t 78), none, []⟩,
    ⟨some 7, .mov (.t 79), none, []⟩] [2, 3, 4, 5, 6, 7, 9, 10])
   (.rgn false [⟨some 8, .mov (.c (.bool true)), none, []⟩] [2, 3, 4, 5, 6, 7, 8, 9, 10]))
   (.skip))))
   (.rgn false [⟨some 46, .mov (.t 10), none, []⟩,
    ⟨some 47, .bin .add 0 (.t 46) (.c (.int .i64 (1))), none, []⟩,
    ⟨some 10, .mov (.t 47), none, []⟩] [2, 3, 4, 5, 6, 7, 8, 9, 10]))))))
   (.seq (.seq (.rgn false [⟨some 80, .mov (.t 8), none, []⟩,
    ⟨some 81, .un .not (.t 80), none, []⟩] [2, 3, 4, 5, 6, 7, 81])
   (.cond (.t 81) (.exit 0)
   (.skip)))
   (.rgn false [⟨some 82, .mov (.t 6), none, []⟩,
    ⟨some 83, .mov (.t 7), none, []⟩,
    ⟨some 84, .bsl 1 [.str ⟨#[]⟩] 1 [(0, .t 83)], none, []⟩,
    ⟨some 85, .app 1 (.t 82) (.t 84), none, []⟩,
    ⟨some 6, .mov (.t 85), none, []⟩] [2, 3, 4, 5, 6])))))))))
   (.seq (.seq (.rgn false [⟨some 11, .mov (.c (.int .i64 (0))), none, []⟩] [2, 3, 4, 5, 6, 11])
   (.block 4 (.loop [2, 3, 4, 5, 6, 11] (.seq (.seq (.rgn false [⟨some 86, .mov (.t 11), none, []⟩,
    ⟨some 87, .mov (.t 6), none, []⟩,
    ⟨some 88, .len false (.t 87), none, []⟩,
    ⟨some 89, .bin .lss 0 (.t 86) (.t 88), none, []⟩] [2, 3, 4, 5, 6, 11, 89])
   (.cond (.t 89) (.skip)
   (.exit 4)))
   (.seq (.block 5 (.seq (.rgn true [⟨some 92, .fadr 3 (.t 2), none, []⟩,
    ⟨some 93, .load false 1 (.t 92), none, [0]⟩,
    ⟨some 94, .mov (.t 6), none, []⟩,
    ⟨some 95, .mov (.t 11), none, []⟩,
    ⟨some 96, .isl 1 (.t 94) (.t 95), none, [2, 3]⟩,
    ⟨some 97, .load false 1 (.t 96), none, [2, 3, 4]⟩,
    ⟨some 98, .call 0 (.c (.fn 49 [])) [.t 93, .t 97], none, [0, 1, 2, 3, 4, 5]⟩,
    ⟨some 99, .fadr 2 (.t 2), none, []⟩,
    ⟨some 100, .load false 1 (.t 99), none, [7]⟩,
    ⟨some 101, .bin .neq 1 (.t 98) (.t 100), none, [0, 1, 2, 3, 4, 5, 6, 7, 8]⟩,
    ⟨some 102, .mov (.t 101), none, [0, 1, 2, 3, 4, 5, 6, 7, 8, 9]⟩,
    ⟨some 103, .fadr 3 (.t 3), some (102, false), [0, 1, 2, 3, 4, 5, 6, 7, 8, 9, 10]⟩,
    ⟨some 104, .load false 1 (.t 103), some (102, false), [0, 1, 2, 3, 4, 5, 6, 7, 8, 9, 10, 11]⟩,
    ⟨some 105, .mov (.t 6), some (102, false), [0, 1, 2, 3, 4, 5, 6, 7, 8, 9, 10]⟩,
    ⟨some 106, .mov (.t 11), some (102, false), [0, 1, 2, 3, 4, 5, 6, 7, 8, 9, 10]⟩,
    ⟨some 107, .isl 1 (.t 105) (.t 106), some (102, false), [0, 1, 2, 3, 4, 5, 6, 7, 8, 9, 10, 13, 14]⟩,
    ⟨some 108, .load false 1 (.t 107), some (102, false), [0, 1, 2, 3, 4, 5, 6, 7, 8, 9, 10, 13, 14, 15]⟩,
    ⟨some 109, .call 0 (.c (.fn 49 [])) [.t 104, .t 108], some (102, false), [0, 1, 2, 3, 4, 5, 6, 7, 8, 9, 10, 11, 12, 13, 14, 15, 16]⟩,
    ⟨some 110, .fadr 2 (.t 3), some (102, false), [0, 1, 2, 3, 4, 5, 6, 7, 8, 9, 10]⟩,
    ⟨some 111, .load false 1 (.t 110), some (102, false), [0, 1, 2, 3, 4, 5, 6, 7, 8, 9, 10, 18]⟩,
    ⟨some 112, .bin .neq 1 (.t 109) (.t 111), some (102, false), [0, 1, 2, 3, 4, 5, 6, 7, 8, 9, 10, 11, 12, 13, 14, 15, 16, 17, 18, 19]⟩,
    ⟨some 113, .pick (.t 102) (.c (.bool true)) (.t 112), none, [0, 1, 2, 3, 4, 5, 6, 7, 8, 9, 10, 11, 12, 13, 14, 15, 16, 17, 18, 19, 20]⟩,
    ⟨some 12, .mov (.t 113), none, [0, 1, 2, 3, 4, 5, 6, 7, 8, 9, 10, 11, 12, 13, 14, 15, 16, 17, 18, 19, 20, 21]⟩] [2, 3, 4, 5, 6, 11, 12])
   (.seq (.rgn false [⟨some 114, .mov (.t 12), none, []⟩,
    ⟨some 115, .fadr 2 (.t 5), none, []⟩,
    ⟨some 116, .load false 1 (.t 115), none, []⟩,
    ⟨some 117, .bin .neq 1 (.t 114) (.t 116), none, []⟩] [2, 3, 4, 5, 6, 11, 117])
   (.cond (.t 117) (.rgn true [⟨some 118, .fadr 3 (.t 5), none, []⟩,
    ⟨some 119, .load false 1 (.t 118), none, [0]⟩,
    ⟨some 120, .mov (.t 6), none, []⟩,
    ⟨some 121, .mov (.t 11), none, []⟩,
    ⟨some 122, .isl 1 (.t 120) (.t 121), none, [2, 3]⟩,
    ⟨some 123, .load false 1 (.t 122), none, [2, 3, 4]⟩,
    ⟨some 124, .bsl 1 [.str ⟨#[]⟩] 1 [(0, .t 123)], none, [2, 3, 4, 5]⟩,
    ⟨some 125, .app 1 (.t 119) (.t 124), none, [0, 1, 2, 3, 4, 5, 6]⟩,
    ⟨some 126, .fadr 3 (.t 5), none, [0, 1, 2, 3, 4, 5, 6, 7]⟩,
    ⟨none, .store 1 (.t 126) (.t 125), none, [0, 1, 2, 3, 4, 5, 6, 7, 8]⟩] [2, 3, 4, 5, 6, 11])
   (.skip)))))
   (.rgn false [⟨some 90, .mov (.t 11), none, []⟩,
    ⟨some 91, .bin .add 0 (.t 90) (.c (.int .i64 (1))), none, []⟩,
    ⟨some 11, .mov (.t 91), none, []⟩] [2, 3, 4, 5, 6, 11]))))))
   (.seq (.rgn false [⟨some 127, .load true 4 (.t 5), none, []⟩,
    ⟨none, .store 4 (.t 4) (.t 127), none, []⟩] [4])
   (.ret))))))), none⟩
/-- arbour/arbourref06.Right -/
def F98 : IFn := ⟨1, [.t 2],
   .seq (.rgn false [⟨some 2, .mov (.c (.bool false)), none, []⟩] [0])
   (.seq (.seq (.rgn false [⟨some 3, .mov (.c (.int .i64 (0))), none, []⟩] [0, 3])
   (.block 0 (.loop [0, 3] (.seq (.seq (.rgn false [⟨some 4, .mov (.t 3), none, []⟩,
    ⟨some 5, .mov (.t 0), none, []⟩,
    ⟨some 6, .len false (.t 5), none, []⟩,
    ⟨some 7, .bin .lss 0 (.t 4) (.t 6), none, []⟩] [0, 3, 7])
   (.cond (.t 7) (.skip)
   (.exit 0)))
   (.seq (.block 1 (.seq (.rgn false [⟨some 10, .mov (.t 0), none, []⟩,
    ⟨some 11, .mov (.t 3), none, []⟩,
    ⟨some 12, .isl 16 (.t 10) (.t 11), none, []⟩,
    ⟨some 13, .load true 16 (.t 12), none, []⟩,
    ⟨some 14, .call 0 (.c (.fn 100 [])) [.t 13], none, []⟩,
    ⟨some 15, .un .not (.t 14), none, []⟩,
    ⟨some 16, .mov (.t 15), none, []⟩,
    ⟨some 17, .mov (.t 0), some (16, false), []⟩,
    ⟨some 18, .mov (.t 3), some (16, false), []⟩,
    ⟨some 19, .isl 16 (.t 17) (.t 18), some (16, false), []⟩,
    ⟨some 20, .load true 16 (.t 19), some (16, false), []⟩,
    ⟨some 21, .call 0 (.c (.fn 101 [])) [.t 20], some (16, false), []⟩,
    ⟨some 22, .un .not (.t 21), some (16, false), []⟩,
    ⟨some 23, .pick (.t 16) (.c (.bool true)) (.t 22), none, []⟩] [0, 3, 23])
   (.cond (.t 23) (.seq (.rgn false [⟨some 2, .mov (.c (.bool false)), none, []⟩] [2])
   (.ret))
   (.skip))))
   (.rgn false [⟨some 8, .mov (.t 3), none, []⟩,
    ⟨some 9, .bin .add 0 (.t 8) (.c (.int .i64 (1))), none, []⟩,
    ⟨some 3, .mov (.t 9), none, []⟩] [0, 3]))))))
   (.seq (.rgn false [⟨some 24, .mov (.t 0), none, []⟩,
    ⟨some 25, .len false (.t 24), none, []⟩,
    ⟨some 26, .bin .leq 0 (.t 25) (.c (.int .i64 (4))), none, []⟩,
    ⟨some 27, .mov (.t 26), none, []⟩,
    ⟨some 28, .mov (.t 0), some (27, true), []⟩,
    ⟨some 29, .call 3 (.c (.fn 99 [])) [.t 28], some (27, true), []⟩,
    ⟨some 30, .len false (.t 29), some (27, true), []⟩,
    ⟨some 31, .mov (.t 0), some (27, true), []⟩,
    ⟨some 32, .len false (.t 31), some (27, true), []⟩,
    ⟨some 33, .bin .eql 0 (.t 30) (.t 32), some (27, true), []⟩,
    ⟨some 34, .pick (.t 27) (.t 33) (.c (.bool false)), none, []⟩,
    ⟨some 2, .mov (.t 34), none, []⟩] [2])
   (.ret))), none⟩
/-- arbour/arbourref06.Tidy -/
def F99 : IFn := ⟨1, [.t 2],
   .seq (.rgn false [⟨some 2, .nil0 16, none, []⟩] [0])
   (.seq (.rgn false [⟨some 3, .nil0 16, none, []⟩] [0, 3])
   (.seq (.seq (.rgn false [⟨some 4, .mov (.c (.int .i64 (0))), none, []⟩] [0, 3, 4])
   (.block 0 (.loop [0, 3, 4] (.seq (.seq (.rgn false [⟨some 7, .mov (.t 4), none, []⟩,
    ⟨some 8, .mov (.t 0), none, []⟩,
    ⟨some 9, .len false (.t 8), none, []⟩,
    ⟨some 10, .bin .lss 0 (.t 7) (.t 9), none, []⟩] [0, 3, 4, 10])
   (.cond (.t 10) (.skip)
   (.exit 0)))
   (.seq (.block 1 (.seq (.rgn false [⟨some 13, .mov (.t 0), none, []⟩,
    ⟨some 14, .mov (.t 4), none, []⟩,
    ⟨some 15, .isl 16 (.t 13) (.t 14), none, []⟩,
    ⟨some 16, .load true 16 (.t 15), none, []⟩,
    ⟨some 17, .call 0 (.c (.fn 103 [])) [.t 16], none, []⟩,
    ⟨some 18, .un .not (.t 17), none, []⟩,
    ⟨some 5, .mov (.t 18), none, []⟩] [0, 3, 4, 5])
   (.seq (.seq (.rgn false [⟨some 6, .mov (.c (.int .i64 (0))), none, []⟩] [0, 3, 4, 5, 6])
   (.block 2 (.loop [0, 3, 4, 5, 6] (.seq (.seq (.rgn false [⟨some 19, .mov (.t 6), none, []⟩,
    ⟨some 20, .mov (.t 0), none, []⟩,
    ⟨some 21, .len false (.t 20), none, []⟩,
    ⟨some 22, .bin .lss 0 (.t 19) (.t 21), none, []⟩] [0, 3, 4, 5, 6, 22])
   (.cond (.t 22) (.skip)
   (.exit 2)))
   (.seq (.block 3 (.seq (.rgn true [⟨some 25, .mov (.t 6), none, []⟩,
    ⟨some 26, .mov (.t 4), none, []⟩,
    ⟨some 27, .bin .neq 0 (.t 25) (.t 26), none, [0, 1]⟩,
    ⟨some 28, .mov (.t 27), none, [0, 1, 2]⟩,
    ⟨some 29, .mov (.t 5), some (28, true), [0, 1, 2, 3]⟩,
    ⟨some 30, .pick (.t 28) (.t 29) (.c (.bool false)), none, [0, 1, 2, 3, 4]⟩,
    ⟨some 31, .mov (.t 30), none, [0, 1, 2, 3, 4, 5]⟩,
    ⟨some 32, .mov (.t 0), some (31, true), [0, 1, 2, 3, 4, 5, 6]⟩,
    ⟨some 33, .mov (.t 4), some (31, true), [0, 1, 2, 3, 4, 5, 6]⟩,
    ⟨some 34, .isl 16 (.t 32) (.t 33), some (31, true), [0, 1, 2, 3, 4, 5, 6, 7, 8]⟩,
    ⟨some 35, .load true 16 (.t 34), some (31, true), [0, 1, 2, 3, 4, 5, 6, 7, 8, 9]⟩,
    ⟨some 36, .mov (.t 0), some (31, true), [0, 1, 2, 3, 4, 5, 6]⟩,
    ⟨some 37, .mov (.t 6), some (31, true), [0, 1, 2, 3, 4, 5, 6]⟩,
    ⟨some 38, .isl 16 (.t 36) (.t 37), some (31, true), [0, 1, 2, 3, 4, 5, 6, 11, 12]⟩,
    ⟨some 39, .load true 16 (.t 38), some (31, true), [0, 1, 2, 3, 4, 5, 6, 11, 12, 13]⟩,
    ⟨some 40, .call 0 (.c (.fn 104 [])) [.t 35, .t 39], some (31, true), [0, 1, 2, 3, 4, 5, 6, 7, 8, 9, 10, 11, 12, 13, 14]⟩,
    ⟨some 41, .pick (.t 31) (.t 40) (.c (.bool false)), none, [0, 1, 2, 3, 4, 5, 6, 7, 8, 9, 10, 11, 12, 13, 14, 15]⟩,
    ⟨some 42, .mov (.t 41), none, [0, 1, 2, 3, 4, 5, 6, 7, 8, 9, 10, 11, 12, 13, 14, 15, 16]⟩,
    ⟨some 43, .mov (.t 6), some (42, true), [0, 1, 2, 3, 4, 5, 6, 7, 8, 9, 10, 11, 12, 13, 14, 15, 16, 17]⟩,
    ⟨some 44, .mov (.t 4), some (42, true), [0, 1, 2, 3, 4, 5, 6, 7, 8, 9, 10, 11, 12, 13, 14, 15, 16, 17]⟩,
    ⟨some 45, .bin .lss 0 (.t 43) (.t 44), some (42, true), [0, 1, 2, 3, 4, 5, 6, 7, 8, 9, 10, 11, 12, 13, 14, 15, 16, 17, 18, 19]⟩,
    ⟨some 46, .mov (.t 45), some (42, true), [0, 1, 2, 3, 4, 5, 6, 7, 8, 9, 10, 11, 12, 13, 14, 15, 16, 17, 18, 19, 20]⟩,
    ⟨some 47, .mov (.t 0), some (46, false), [0, 1, 2, 3, 4, 5, 6, 7, 8, 9, 10, 11, 12, 13, 14, 15, 16, 17, 18, 19, 20, 21]⟩,
    ⟨some 48, .mov (.t 6), some (46, false), [0, 1, 2, 3, 4, 5, 6, 7, 8, 9, 10, 11, 12, 13, 14, 15, 16, 17, 18, 19, 20, 21]⟩,
    ⟨some 49, .isl 16 (.t 47) (.t 48), some (46, false), [0, 1, 2, 3, 4, 5, 6, 7, 8, 9, 10, 11, 12, 13, 14, 15, 16, 17, 18, 19, 20, 21, 22, 23]⟩,
    ⟨some 50, .load true 16 (.t 49), some (46, false), [0, 1, 2, 3, 4, 5, 6, 7, 8, 9, 10, 11, 12, 13, 14, 15, 16, 17, 18, 19, 20, 21, 22, 23, 24]⟩,
    ⟨some 51, .mov (.t 0), some (46, false), [0, 1, 2, 3, 4, 5, 6, 7, 8, 9, 10, 11, 12, 13, 14, 15, 16, 17, 18, 19, 20, 21]⟩,
    ⟨some 52, .mov (.t 4), some (46, false), [0, 1, 2, 3, 4, 5, 6, 7, 8, 9, 10, 11, 12, 13, 14, 15, 16, 17, 18, 19, 20, 21]⟩,
    ⟨some 53, .isl 16 (.t 51) (.t 52), some (46, false), [0, 1, 2, 3, 4, 5, 6, 7, 8, 9, 10, 11, 12, 13, 14, 15, 16, 17, 18, 19, 20, 21, 26, 27]⟩,
    ⟨some 54, .load true 16 (.t 53), some (46, false), [0, 1, 2, 3, 4, 5, 6, 7, 8, 9, 10, 11, 12, 13, 14, 15, 16, 17, 18, 19, 20, 21, 26, 27, 28]⟩,
    ⟨some 55, .call 0 (.c (.fn 104 [])) [.t 50, .t 54], some (46, false), [0, 1, 2, 3, 4, 5, 6, 7, 8, 9, 10, 11, 12, 13, 14, 15, 16, 17, 18, 19, 20, 21, 22, 23, 24, 25, 26, 27, 28, 29]⟩,
    ⟨some 56, .un .not (.t 55), some (46, false), [0, 1, 2, 3, 4, 5, 6, 7, 8, 9, 10, 11, 12, 13, 14, 15, 16, 17, 18, 19, 20, 21, 22, 23, 24, 25, 26, 27, 28, 29, 30]⟩,
    ⟨some 57, .pick (.t 46) (.c (.bool true)) (.t 56), some (42, true), [0, 1, 2, 3, 4, 5, 6, 7, 8, 9, 10, 11, 12, 13, 14, 15, 16, 17, 18, 19, 20, 21, 22, 23, 24, 25, 26, 27, 28, 29, 30, 31]⟩,
    ⟨some 58, .pick (.t 42) (.t 57) (.c (.bool false)), none, [0, 1, 2, 3, 4, 5, 6, 7, 8, 9, 10, 11, 12, 13, 14, 15, 16, 17, 18, 19, 20, 21, 22, 23, 24, 25, 26, 27, 28, 29, 30, 31, 32]⟩] [0, 3, 4, 5, 6, 58])
   (.cond (.t 58) (.rgn false [⟨some 5, .mov (.c (.bool false)), none, []⟩] [0, 3, 4, 5, 6])
   (.skip))))
   (.rgn false [⟨some 23, .mov (.t 6), none, []⟩,
    ⟨some 24, .bin .add 0 (.t 23) (.c (.int .i64 (1))), none, []⟩,
    ⟨some 6, .mov (.t 24), none, []⟩] [0, 3, 4, 5, 6]))))))
   (.seq (.rgn false [⟨some 59, .mov (.t 5), none, []⟩] [0, 3, 4, 59])
   (.cond (.t 59) (.rgn false [⟨some 60, .mov (.t 3), none, []⟩,
    ⟨some 61, .mov (.t 0), none, []⟩,
    ⟨some 62, .mov (.t 4), none, []⟩,
    ⟨some 63, .isl 16 (.t 61) (.t 62), none, []⟩,
    ⟨some 64, .load true 16 (.t 63), none, []⟩,
    ⟨some 65, .bsl 16 [.bool false, .nsl 2, .bool false, .nsl 1, .bool false, .nsl 2, .bool false, .nsl 1, .bool false, .nsl 2, .bool false, .nsl 1, .bool false, .nsl 2, .bool false, .nsl 1] 1 [(0, .t 64)], none, []⟩,
    ⟨some 66, .app 16 (.t 60) (.t 65), none, []⟩,
    ⟨some 3, .mov (.t 66), none, []⟩] [0, 3, 4])
   (.skip))))))
   (.rgn false [⟨some 11, .mov (.t 4), none, []⟩,
    ⟨some 12, .bin .add 0 (.t 11) (.c (.int .i64 (1))), none, []⟩,
    ⟨some 4, .mov (.t 12), none, []⟩] [0, 3, 4]))))))
   (.seq (.rgn false [⟨some 67, .mov (.t 3), none, []⟩,
    ⟨some 2, .mov (.t 67), none, []⟩] [2])
   (.ret)))), none⟩
/-- arbour/arbourref04.Right -/
def F100 : IFn := ⟨1, [.t 2],
   .seq (.rgn false [⟨some 1, .box (.t 0), none, []⟩,
    ⟨some 2, .mov (.c (.bool false)), none, []⟩] [1])
   (.seq (.seq (.rgn false [⟨some 3, .mov (.c (.int .i64 (0))), none, []⟩] [1, 3])
   (.block 0 (.loop [1, 3] (.seq (.seq (.rgn false [⟨some 4, .mov (.t 3), none, []⟩,
    ⟨some 5, .bin .lss 0 (.t 4) (.c (.int .i64 (4))), none, []⟩] [1, 3, 5])
   (.cond (.t 5) (.skip)
   (.exit 0)))
   (.seq (.block 1 (.seq (.rgn false [⟨some 8, .mov (.t 3), none, []⟩,
    ⟨some 9, .iarr 4 4 (.t 1) (.t 8), none, []⟩,
    ⟨some 10, .load true 4 (.t 9), none, []⟩,
    ⟨some 11, .call 0 (.c (.fn 105 [])) [.t 10], none, []⟩,
    ⟨some 12, .un .not (.t 11), none, []⟩] [1, 3, 12])
   (.cond (.t 12) (.seq (.rgn false [⟨some 2, .mov (.c (.bool false)), none, []⟩] [2])
   (.ret))
   (.skip))))
   (.rgn false [⟨some 6, .mov (.t 3), none, []⟩,
    ⟨some 7, .bin .add 0 (.t 6) (.c (.int .i64 (1))), none, []⟩,
    ⟨some 3, .mov (.t 7), none, []⟩] [1, 3]))))))
   (.seq (.rgn false [⟨some 2, .mov (.c (.bool true)), none, []⟩] [2])
   (.ret))), none⟩
/-- arbour/arbourref04.Small -/
def F101 : IFn := ⟨1, [.t 2],
   .seq (.rgn false [⟨some 1, .box (.t 0), none, []⟩,
    ⟨some 2, .mov (.c (.bool false)), none, []⟩] [1])
   (.seq (.seq (.rgn false [⟨some 3, .mov (.c (.int .i64 (0))), none, []⟩] [1, 3])
   (.block 0 (.loop [1, 3] (.seq (.seq (.rgn false [⟨some 4, .mov (.t 3), none, []⟩,
    ⟨some 5, .bin .lss 0 (.t 4) (.c (.int .i64 (4))), none, []⟩] [1, 3, 5])
   (.cond (.t 5) (.skip)
   (.exit 0)))
   (.seq (.block 1 (.seq (.rgn false [⟨some 8, .mov (.t 3), none, []⟩,
    ⟨some 9, .iarr 4 4 (.t 1) (.t 8), none, []⟩,
    ⟨some 10, .load true 4 (.t 9), none, []⟩,
    ⟨some 11, .call 0 (.c (.fn 106 [])) [.t 10], none, []⟩,
    ⟨some 12, .un .not (.t 11), none, []⟩] [1, 3, 12])
   (.cond (.t 12) (.seq (.rgn false [⟨some 2, .mov (.c (.bool false)), none, []⟩] [2])
   (.ret))
   (.skip))))
   (.rgn false [⟨some 6, .mov (.t 3), none, []⟩,
    ⟨some 7, .bin .add 0 (.t 6) (.c (.int .i64 (1))), none, []⟩,
    ⟨some 3, .mov (.t 7), none, []⟩] [1, 3]))))))
   (.seq (.rgn false [⟨some 2, .mov (.c (.bool true)), none, []⟩] [2])
   (.ret))), none⟩
/-- arbour/arbourref04.Differ -/
def F102 : IFn := ⟨2, [.t 4, .t 5],
   .seq (.rgn false [⟨some 2, .box (.t 0), none, []⟩,
    ⟨some 3, .box (.t 1), none, []⟩,
    ⟨some 4, .mov (.c (.int .i64 (0))), none, []⟩,
    ⟨some 5, .mov (.c (.int .i64 (0))), none, []⟩] [2, 3])
   (.seq (.rgn false [⟨some 6, .mov (.c (.int .i64 (0))), none, []⟩,
    ⟨some 7, .mov (.c (.int .i64 (-1))), none, []⟩] [2, 3, 6, 7])
   (.seq (.seq (.rgn false [⟨some 8, .mov (.c (.int .i64 (3))), none, []⟩] [2, 3, 6, 7, 8])
   (.block 0 (.loop [2, 3, 6, 7, 8] (.seq (.seq (.rgn false [⟨some 9, .mov (.t 8), none, []⟩,
    ⟨some 10, .bin .geq 0 (.t 9) (.c (.int .i64 (0))), none, []⟩] [2, 3, 6, 7, 8, 10])
   (.cond (.t 10) (.skip)
   (.exit 0)))
   (.seq (.block 1 (.seq (.rgn true [⟨some 13, .mov (.t 8), none, []⟩,
    ⟨some 14, .iarr 4 4 (.t 2) (.t 13), none, [0]⟩,
    ⟨some 15, .load true 4 (.t 14), none, [0, 1]⟩,
    ⟨some 16, .mov (.t 8), none, []⟩,
    ⟨some 17, .iarr 4 4 (.t 3) (.t 16), none, [3]⟩,
    ⟨some 18, .load true 4 (.t 17), none, [3, 4]⟩,
    ⟨some 19, .call 0 (.c (.fn 41 [])) [.t 15, .t 18], none, [0, 1, 2, 3, 4, 5]⟩,
    ⟨some 20, .un .not (.t 19), none, [0, 1, 2, 3, 4, 5, 6]⟩] [2, 3, 6, 7, 8, 20])
   (.cond (.t 20) (.seq (.rgn false [⟨some 21, .mov (.t 6), none, []⟩,
    ⟨some 22, .bin .add 0 (.t 21) (.c (.int .i64 (1))), none, []⟩,
    ⟨some 6, .mov (.t 22), none, []⟩] [2, 3, 6, 8])
   (.rgn false [⟨some 23, .mov (.t 8), none, []⟩,
    ⟨some 7, .mov (.t 23), none, []⟩] [2, 3, 6, 7, 8]))
   (.skip))))
   (.rgn false [⟨some 11, .mov (.t 8), none, []⟩,
    ⟨some 12, .bin .sub 0 (.t 11) (.c (.int .i64 (1))), none, []⟩,
    ⟨some 8, .mov (.t 12), none, []⟩] [2, 3, 6, 7, 8]))))))
   (.seq (.rgn false [⟨some 24, .mov (.t 6), none, []⟩,
    ⟨some 25, .mov (.t 7), none, []⟩,
    ⟨some 4, .mov (.t 24), none, []⟩,
    ⟨some 5, .mov (.t 25), none, []⟩] [4, 5])
   (.ret)))), none⟩
/-- arbour/arbourref04.Empty -/
def F103 : IFn := ⟨1, [.t 2],
   .seq (.rgn false [⟨some 1, .box (.t 0), none, []⟩,
    ⟨some 2, .mov (.c (.bool false)), none, []⟩] [1])
   (.seq (.seq (.rgn false [⟨some 3, .mov (.c (.int .i64 (0))), none, []⟩] [1, 3])
   (.block 0 (.loop [1, 3] (.seq (.seq (.rgn false [⟨some 4, .mov (.t 3), none, []⟩,
    ⟨some 5, .bin .lss 0 (.t 4) (.c (.int .i64 (4))), none, []⟩] [1, 3, 5])
   (.cond (.t 5) (.skip)
   (.exit 0)))
   (.seq (.block 1 (.seq (.rgn false [⟨some 8, .mov (.t 3), none, []⟩,
    ⟨some 9, .iarr 4 4 (.t 1) (.t 8), none, []⟩,
    ⟨some 10, .load true 4 (.t 9), none, []⟩,
    ⟨some 11, .call 0 (.c (.fn 108 [])) [.t 10], none, []⟩] [1, 3, 11])
   (.cond (.t 11) (.seq (.rgn false [⟨some 2, .mov (.c (.bool true)), none, []⟩] [2])
   (.ret))
   (.skip))))
   (.rgn false [⟨some 6, .mov (.t 3), none, []⟩,
    ⟨some 7, .bin .add 0 (.t 6) (.c (.int .i64 (1))), none, []⟩,
    ⟨some 3, .mov (.t 7), none, []⟩] [1, 3]))))))
   (.seq (.rgn false [⟨some 2, .mov (.c (.bool false)), none, []⟩] [2])
   (.ret))), none⟩
/-- arbour/arbourref04.In -/
def F104 : IFn := ⟨2, [.t 4],
   .seq (.rgn false [⟨some 2, .box (.t 0), none, []⟩,
    ⟨some 3, .box (.t 1), none, []⟩,
    ⟨some 4, .mov (.c (.bool false)), none, []⟩] [2, 3])
   (.seq (.seq (.rgn false [⟨some 6, .load true 16 (.t 2), none, []⟩,
    ⟨some 7, .call 0 (.c (.fn 103 [])) [.t 6], none, []⟩] [2, 3, 7])
   (.cond (.t 7) (.seq (.rgn false [⟨some 4, .mov (.c (.bool true)), none, []⟩] [4])
   (.ret))
   (.skip)))
   (.seq (.seq (.rgn false [⟨some 5, .mov (.c (.int .i64 (0))), none, []⟩] [2, 3, 5])
   (.block 0 (.loop [2, 3, 5] (.seq (.seq (.rgn false [⟨some 8, .mov (.t 5), none, []⟩,
    ⟨some 9, .bin .lss 0 (.t 8) (.c (.int .i64 (4))), none, []⟩] [2, 3, 5, 9])
   (.cond (.t 9) (.skip)
   (.exit 0)))
   (.seq (.block 1 (.seq (.rgn true [⟨some 12, .mov (.t 5), none, []⟩,
    ⟨some 13, .iarr 4 4 (.t 2) (.t 12), none, [0]⟩,
    ⟨some 14, .load true 4 (.t 13), none, [0, 1]⟩,
    ⟨some 15, .mov (.t 5), none, []⟩,
    ⟨some 16, .iarr 4 4 (.t 3) (.t 15), none, [3]⟩,
    ⟨some 17, .load true 4 (.t 16), none, [3, 4]⟩,
    ⟨some 18, .call 0 (.c (.fn 109 [])) [.t 14, .t 17], none, [0, 1, 2, 3, 4, 5]⟩,
    ⟨some 19, .un .not (.t 18), none, [0, 1, 2, 3, 4, 5, 6]⟩] [2, 3, 5, 19])
   (.cond (.t 19) (.seq (.rgn false [⟨some 4, .mov (.c (.bool false)), none, []⟩] [4])
   (.ret))
   (.skip))))
   (.rgn false [⟨some 10, .mov (.t 5), none, []⟩,
    ⟨some 11, .bin .add 0 (.t 10) (.c (.int .i64 (1))), none, []⟩,
    ⟨some 5, .mov (.t 11), none, []⟩] [2, 3, 5]))))))
   (.seq (.rgn false [⟨some 4, .mov (.c (.bool true)), none, []⟩] [4])
   (.ret)))), none⟩
/-- arbour/arbourref03.Right -/
def F105 : IFn := ⟨1, [.t 2],
   .seq (.rgn false [⟨some 1, .box (.t 0), none, []⟩,
    ⟨some 2, .mov (.c (.bool false)), none, []⟩] [1])
   (.seq (.seq (.rgn false [⟨some 3, .mov (.c (.int .i64 (0))), none, []⟩] [1, 3])
   (.block 0 (.loop [1, 3] (.seq (.seq (.rgn false [⟨some 6, .mov (.t 3), none, []⟩,
    ⟨some 7, .fadr 1 (.t 1), none, []⟩,
    ⟨some 8, .load false 1 (.t 7), none, []⟩,
    ⟨some 9, .len false (.t 8), none, []⟩,
    ⟨some 10, .bin .lss 0 (.t 6) (.t 9), none, []⟩] [1, 3, 10])
   (.cond (.t 10) (.skip)
   (.exit 0)))
   (.seq (.block 1 (.seq (.rgn false [⟨some 13, .fadr 1 (.t 1), none, []⟩,
    ⟨some 14, .load false 1 (.t 13), none, []⟩,
    ⟨some 15, .mov (.t 3), none, []⟩,
    ⟨some 16, .isl 2 (.t 14) (.t 15), none, []⟩,
    ⟨some 17, .load true 2 (.t 16), none, []⟩,
    ⟨some 4, .alloc [.int .i64 0, .int .i64 0], none, []⟩,
    ⟨none, .store 2 (.t 4) (.t 17), none, []⟩] [1, 3, 4])
   (.seq (.seq (.rgn false [⟨some 18, .fadr 0 (.t 4), none, []⟩,
    ⟨some 19, .load false 1 (.t 18), none, []⟩,
    ⟨some 20, .fadr 1 (.t 4), none, []⟩,
    ⟨some 21, .load false 1 (.t 20), none, []⟩,
    ⟨some 22, .bin .gtr 0 (.t 19) (.t 21), none, []⟩] [1, 3, 4, 22])
   (.cond (.t 22) (.seq (.rgn false [⟨some 2, .mov (.c (.bool false)), none, []⟩] [2])
   (.ret))
   (.skip)))
   (.seq (.rgn true [⟨some 23, .mov (.t 3), none, []⟩,
    ⟨some 24, .bin .gtr 0 (.t 23) (.c (.int .i64 (0))), none, [0]⟩,
    ⟨some 25, .mov (.t 24), none, [0, 1]⟩,
    ⟨some 26, .fadr 1 (.t 1), some (25, true), [0, 1, 2]⟩,
    ⟨some 27, .load false 1 (.t 26), some (25, true), [0, 1, 2, 3]⟩,
    ⟨some 28, .mov (.t 3), some (25, true), [0, 1, 2]⟩,
    ⟨some 29, .bin .sub 0 (.t 28) (.c (.int .i64 (1))), some (25, true), [0, 1, 2, 5]⟩,
    ⟨some 30, .isl 2 (.t 27) (.t 29), some (25, true), [0, 1, 2, 3, 4, 5, 6]⟩,
    ⟨some 31, .fadr 1 (.t 30), some (25, true), [0, 1, 2, 3, 4, 5, 6, 7]⟩,
    ⟨some 32, .load false 1 (.t 31), some (25, true), [0, 1, 2, 3, 4, 5, 6, 7, 8]⟩,
    ⟨some 33, .fadr 0 (.t 4), some (25, true), [0, 1, 2]⟩,
    ⟨some 34, .load false 1 (.t 33), some (25, true), [0, 1, 2, 10]⟩,
    ⟨some 35, .bin .geq 0 (.t 32) (.t 34), some (25, true), [0, 1, 2, 3, 4, 5, 6, 7, 8, 9, 10, 11]⟩,
    ⟨some 36, .mov (.t 35), some (25, true), [0, 1, 2, 3, 4, 5, 6, 7, 8, 9, 10, 11, 12]⟩,
    ⟨some 37, .fadr 1 (.t 1), some (36, false), [0, 1, 2, 3, 4, 5, 6, 7, 8, 9, 10, 11, 12, 13]⟩,
    ⟨some 38, .load false 1 (.t 37), some (36, false), [0, 1, 2, 3, 4, 5, 6, 7, 8, 9, 10, 11, 12, 13, 14]⟩,
    ⟨some 39, .mov (.t 3), some (36, false), [0, 1, 2, 3, 4, 5, 6, 7, 8, 9, 10, 11, 12, 13]⟩,
    ⟨some 40, .bin .sub 0 (.t 39) (.c (.int .i64 (1))), some (36, false), [0, 1, 2, 3, 4, 5, 6, 7, 8, 9, 10, 11, 12, 13, 16]⟩,
    ⟨some 41, .isl 2 (.t 38) (.t 40), some (36, false), [0, 1, 2, 3, 4, 5, 6, 7, 8, 9, 10, 11, 12, 13, 14, 15, 16, 17]⟩,
    ⟨some 42, .fadr 1 (.t 41), some (36, false), [0, 1, 2, 3, 4, 5, 6, 7, 8, 9, 10, 11, 12, 13, 14, 15, 16, 17, 18]⟩,
    ⟨some 43, .load false 1 (.t 42), some (36, false), [0, 1, 2, 3, 4, 5, 6, 7, 8, 9, 10, 11, 12, 13, 14, 15, 16, 17, 18, 19]⟩,
    ⟨some 44, .bin .add 0 (.t 43) (.c (.int .i64 (1))), some (36, false), [0, 1, 2, 3, 4, 5, 6, 7, 8, 9, 10, 11, 12, 13, 14, 15, 16, 17, 18, 19, 20]⟩,
    ⟨some 45, .fadr 0 (.t 4), some (36, false), [0, 1, 2, 3, 4, 5, 6, 7, 8, 9, 10, 11, 12, 13]⟩,
    ⟨some 46, .load false 1 (.t 45), some (36, false), [0, 1, 2, 3, 4, 5, 6, 7, 8, 9, 10, 11, 12, 13, 22]⟩,
    ⟨some 47, .bin .geq 0 (.t 44) (.t 46), some (36, false), [0, 1, 2, 3, 4, 5, 6, 7, 8, 9, 10, 11, 12, 13, 14, 15, 16, 17, 18, 19, 20, 21, 22, 23]⟩,
    ⟨some 48, .pick (.t 36) (.c (.bool true)) (.t 47), some (25, true), [0, 1, 2, 3, 4, 5, 6, 7, 8, 9, 10, 11, 12, 13, 14, 15, 16, 17, 18, 19, 20, 21, 22, 23, 24]⟩,
    ⟨some 49, .pick (.t 25) (.t 48) (.c (.bool false)), none, [0, 1, 2, 3, 4, 5, 6, 7, 8, 9, 10, 11, 12, 13, 14, 15, 16, 17, 18, 19, 20, 21, 22, 23, 24, 25]⟩] [1, 3, 49])
   (.cond (.t 49) (.seq (.rgn false [⟨some 2, .mov (.c (.bool false)), none, []⟩] [2])
   (.ret))
   (.skip))))))
   (.rgn false [⟨some 11, .mov (.t 3), none, []⟩,
    ⟨some 12, .bin .add 0 (.t 11) (.c (.int .i64 (1))), none, []⟩,
    ⟨some 3, .mov (.t 12), none, []⟩] [1, 3]))))))
   (.seq (.seq (.rgn false [⟨some 5, .mov (.c (.int .i64 (0))), none, []⟩] [1, 5])
   (.block 2 (.loop [1, 5] (.seq (.seq (.rgn false [⟨some 50, .mov (.t 5), none, []⟩,
    ⟨some 51, .fadr 3 (.t 1), none, []⟩,
    ⟨some 52, .load false 1 (.t 51), none, []⟩,
    ⟨some 53, .len false (.t 52), none, []⟩,
    ⟨some 54, .bin .lss 0 (.t 50) (.t 53), none, []⟩] [1, 5, 54])
   (.cond (.t 54) (.skip)
   (.exit 2)))
   (.seq (.block 3 (.seq (.rgn true [⟨some 57, .fadr 3 (.t 1), none, []⟩,
    ⟨some 58, .load false 1 (.t 57), none, [0]⟩,
    ⟨some 59, .mov (.t 5), none, []⟩,
    ⟨some 60, .isl 1 (.t 58) (.t 59), none, [0, 1, 2]⟩,
    ⟨some 61, .load false 1 (.t 60), none, [0, 1, 2, 3]⟩,
    ⟨some 62, .len true (.t 61), none, [0, 1, 2, 3, 4]⟩,
    ⟨some 63, .bin .gtr 0 (.t 62) (.c (.int .i64 (8))), none, [0, 1, 2, 3, 4, 5]⟩,
    ⟨some 64, .mov (.t 63), none, [0, 1, 2, 3, 4, 5, 6]⟩,
    ⟨some 65, .mov (.t 5), some (64, false), [0, 1, 2, 3, 4, 5, 6, 7]⟩,
    ⟨some 66, .bin .gtr 0 (.t 65) (.c (.int .i64 (0))), some (64, false), [0, 1, 2, 3, 4, 5, 6, 7, 8]⟩,
    ⟨some 67, .mov (.t 66), some (64, false), [0, 1, 2, 3, 4, 5, 6, 7, 8, 9]⟩,
    ⟨some 68, .fadr 3 (.t 1), some (67, true), [0, 1, 2, 3, 4, 5, 6, 7, 8, 9, 10]⟩,
    ⟨some 69, .load false 1 (.t 68), some (67, true), [0, 1, 2, 3, 4, 5, 6, 7, 8, 9, 10, 11]⟩,
    ⟨some 70, .mov (.t 5), some (67, true), [0, 1, 2, 3, 4, 5, 6, 7, 8, 9, 10]⟩,
    ⟨some 71, .bin .sub 0 (.t 70) (.c (.int .i64 (1))), some (67, true), [0, 1, 2, 3, 4, 5, 6, 7, 8, 9, 10, 13]⟩,
    ⟨some 72, .isl 1 (.t 69) (.t 71), some (67, true), [0, 1, 2, 3, 4, 5, 6, 7, 8, 9, 10, 11, 12, 13, 14]⟩,
    ⟨some 73, .load false 1 (.t 72), some (67, true), [0, 1, 2, 3, 4, 5, 6, 7, 8, 9, 10, 11, 12, 13, 14, 15]⟩,
    ⟨some 74, .fadr 3 (.t 1), some (67, true), [0, 1, 2, 3, 4, 5, 6, 7, 8, 9, 10]⟩,
    ⟨some 75, .load false 1 (.t 74), some (67, true), [0, 1, 2, 3, 4, 5, 6, 7, 8, 9, 10, 17]⟩,
    ⟨some 76, .mov (.t 5), some (67, true), [0, 1, 2, 3, 4, 5, 6, 7, 8, 9, 10]⟩,
    ⟨some 77, .isl 1 (.t 75) (.t 76), some (67, true), [0, 1, 2, 3, 4, 5, 6, 7, 8, 9, 10, 17, 18, 19]⟩,
    ⟨some 78, .load false 1 (.t 77), some (67, true), [0, 1, 2, 3, 4, 5, 6, 7, 8, 9, 10, 17, 18, 19, 20]⟩,
    ⟨some 79, .bin .geq 0 (.t 73) (.t 78), some (67, true), [0, 1, 2, 3, 4, 5, 6, 7, 8, 9, 10, 11, 12, 13, 14, 15, 16, 17, 18, 19, 20, 21]⟩,
    ⟨some 80, .pick (.t 67) (.t 79) (.c (.bool false)), some (64, false), [0, 1, 2, 3, 4, 5, 6, 7, 8, 9, 10, 11, 12, 13, 14, 15, 16, 17, 18, 19, 20, 21, 22]⟩,
    ⟨some 81, .pick (.t 64) (.c (.bool true)) (.t 80), none, [0, 1, 2, 3, 4, 5, 6, 7, 8, 9, 10, 11, 12, 13, 14, 15, 16, 17, 18, 19, 20, 21, 22, 23]⟩] [1, 5, 81])
   (.cond (.t 81) (.seq (.rgn false [⟨some 2, .mov (.c (.bool false)), none, []⟩] [2])
   (.ret))
   (.skip))))
   (.rgn false [⟨some 55, .mov (.t 5), none, []⟩,
    ⟨some 56, .bin .add 0 (.t 55) (.c (.int .i64 (1))), none, []⟩,
    ⟨some 5, .mov (.t 56), none, []⟩] [1, 5]))))))
   (.seq (.rgn false [⟨some 2, .mov (.c (.bool true)), none, []⟩] [2])
   (.ret)))), none⟩
/-- arbour/arbourref03.Small -/
def F106 : IFn := ⟨1, [.t 2],
   .seq (.rgn false [⟨some 1, .box (.t 0), none, []⟩,
    ⟨some 2, .mov (.c (.bool false)), none, []⟩] [1])
   (.seq (.rgn false [⟨some 3, .fadr 1 (.t 1), none, []⟩,
    ⟨some 4, .load false 1 (.t 3), none, []⟩,
    ⟨some 5, .len false (.t 4), none, []⟩,
    ⟨some 6, .bin .leq 0 (.t 5) (.c (.int .i64 (6))), none, []⟩,
    ⟨some 7, .mov (.t 6), none, []⟩,
    ⟨some 8, .fadr 3 (.t 1), some (7, true), []⟩,
    ⟨some 9, .load false 1 (.t 8), some (7, true), []⟩,
    ⟨some 10, .len false (.t 9), some (7, true), []⟩,
    ⟨some 11, .bin .leq 0 (.t 10) (.c (.int .i64 (6))), some (7, true), []⟩,
    ⟨some 12, .pick (.t 7) (.t 11) (.c (.bool false)), none, []⟩,
    ⟨some 2, .mov (.t 12), none, []⟩] [2])
   (.ret)), none⟩
/-- arbour/arbourref03.Ranges -/
def F107 : IFn := ⟨1, [.t 2],
   .seq (.rgn false [⟨some 2, .nil0 2, none, []⟩] [0])
   (.seq (.rgn false [⟨some 3, .nil0 2, none, []⟩] [0, 3])
   (.block 0 (.loop [0, 3] (.block 1 (.seq (.rgn false [⟨some 4, .mov (.c (.int .i64 (-1))), none, []⟩] [0, 3, 4])
   (.seq (.seq (.rgn false [⟨some 5, .mov (.c (.int .i64 (0))), none, []⟩] [0, 3, 4, 5])
   (.block 2 (.loop [0, 3, 4, 5] (.seq (.seq (.rgn false [⟨some 8, .mov (.t 5), none, []⟩,
    ⟨some 9, .mov (.t 0), none, []⟩,
    ⟨some 10, .len false (.t 9), none, []⟩,
    ⟨some 11, .bin .lss 0 (.t 8) (.t 10), none, []⟩] [0, 3, 4, 5, 11])
   (.cond (.t 11) (.skip)
   (.exit 2)))
   (.seq (.block 3 (.seq (.rgn false [⟨some 14, .mov (.t 0), none, []⟩,
    ⟨some 15, .mov (.t 5), none, []⟩,
    ⟨some 16, .isl 2 (.t 14) (.t 15), none, []⟩,
    ⟨some 17, .load true 2 (.t 16), none, []⟩,
    ⟨some 6, .alloc [.int .i64 0, .int .i64 0], none, []⟩,
    ⟨none, .store 2 (.t 6) (.t 17), none, []⟩] [0, 3, 4, 5, 6])
   (.seq (.seq (.rgn true [⟨some 18, .fadr 0 (.t 6), none, []⟩,
    ⟨some 19, .load false 1 (.t 18), none, [0]⟩,
    ⟨some 20, .fadr 1 (.t 6), none, []⟩,
    ⟨some 21, .load false 1 (.t 20), none, [2]⟩,
    ⟨some 22, .bin .gtr 0 (.t 19) (.t 21), none, [0, 1, 2, 3]⟩,
    ⟨some 23, .mov (.t 22), none, [0, 1, 2, 3, 4]⟩,
    ⟨some 24, .mov (.t 3), some (23, false), [0, 1, 2, 3, 4, 5]⟩,
    ⟨some 25, .len false (.t 24), some (23, false), [0, 1, 2, 3, 4, 5, 6]⟩,
    ⟨some 26, .bin .gtr 0 (.t 25) (.c (.int .i64 (0))), some (23, false), [0, 1, 2, 3, 4, 5, 6, 7]⟩,
    ⟨some 27, .mov (.t 26), some (23, false), [0, 1, 2, 3, 4, 5, 6, 7, 8]⟩,
    ⟨some 28, .fadr 1 (.t 6), some (27, true), [0, 1, 2, 3, 4, 5, 6, 7, 8, 9]⟩,
    ⟨some 29, .load false 1 (.t 28), some (27, true), [0, 1, 2, 3, 4, 5, 6, 7, 8, 9, 10]⟩,
    ⟨some 30, .mov (.t 3), some (27, true), [0, 1, 2, 3, 4, 5, 6, 7, 8, 9]⟩,
    ⟨some 31, .mov (.t 3), some (27, true), [0, 1, 2, 3, 4, 5, 6, 7, 8, 9]⟩,
    ⟨some 32, .len false (.t 31), some (27, true), [0, 1, 2, 3, 4, 5, 6, 7, 8, 9, 13]⟩,
    ⟨some 33, .bin .sub 0 (.t 32) (.c (.int .i64 (1))), some (27, true), [0, 1, 2, 3, 4, 5, 6, 7, 8, 9, 13, 14]⟩,
    ⟨some 34, .isl 2 (.t 30) (.t 33), some (27, true), [0, 1, 2, 3, 4, 5, 6, 7, 8, 9, 12, 13, 14, 15]⟩,
    ⟨some 35, .fadr 1 (.t 34), some (27, true), [0, 1, 2, 3, 4, 5, 6, 7, 8, 9, 12, 13, 14, 15, 16]⟩,
    ⟨some 36, .load false 1 (.t 35), some (27, true), [0, 1, 2, 3, 4, 5, 6, 7, 8, 9, 12, 13, 14, 15, 16, 17]⟩,
    ⟨some 37, .bin .leq 0 (.t 29) (.t 36), some (27, true), [0, 1, 2, 3, 4, 5, 6, 7, 8, 9, 10, 11, 12, 13, 14, 15, 16, 17, 18]⟩,
    ⟨some 38, .pick (.t 27) (.t 37) (.c (.bool false)), some (23, false), [0, 1, 2, 3, 4, 5, 6, 7, 8, 9, 10, 11, 12, 13, 14, 15, 16, 17, 18, 19]⟩,
    ⟨some 39, .pick (.t 23) (.c (.bool true)) (.t 38), none, [0, 1, 2, 3, 4, 5, 6, 7, 8, 9, 10, 11, 12, 13, 14, 15, 16, 17, 18, 19, 20]⟩] [0, 3, 4, 5, 6, 39])
   (.cond (.t 39) (.exit 3)
   (.skip)))
   (.seq (.rgn true [⟨some 40, .mov (.t 4), none, []⟩,
    ⟨some 41, .bin .lss 0 (.t 40) (.c (.int .i64 (0))), none, [0]⟩,
    ⟨some 42, .mov (.t 41), none, [0, 1]⟩,
    ⟨some 43, .fadr 0 (.t 6), some (42, false), [0, 1, 2]⟩,
    ⟨some 44, .load false 1 (.t 43), some (42, false), [0, 1, 2, 3]⟩,
    ⟨some 45, .mov (.t 0), some (42, false), [0, 1, 2]⟩,
    ⟨some 46, .mov (.t 4), some (42, false), [0, 1, 2]⟩,
    ⟨some 47, .isl 2 (.t 45) (.t 46), some (42, false), [0, 1, 2, 5, 6]⟩,
    ⟨some 48, .fadr 0 (.t 47), some (42, false), [0, 1, 2, 5, 6, 7]⟩,
    ⟨some 49, .load false 1 (.t 48), some (42, false), [0, 1, 2, 5, 6, 7, 8]⟩,
    ⟨some 50, .bin .lss 0 (.t 44) (.t 49), some (42, false), [0, 1, 2, 3, 4, 5, 6, 7, 8, 9]⟩,
    ⟨some 51, .pick (.t 42) (.c (.bool true)) (.t 50), none, [0, 1, 2, 3, 4, 5, 6, 7, 8, 9, 10]⟩,
    ⟨some 52, .mov (.t 51), none, [0, 1, 2, 3, 4, 5, 6, 7, 8, 9, 10, 11]⟩,
    ⟨some 53, .fadr 0 (.t 6), some (52, false), [0, 1, 2, 3, 4, 5, 6, 7, 8, 9, 10, 11, 12]⟩,
    ⟨some 54, .load false 1 (.t 53), some (52, false), [0, 1, 2, 3, 4, 5, 6, 7, 8, 9, 10, 11, 12, 13]⟩,
    ⟨some 55, .mov (.t 0), some (52, false), [0, 1, 2, 3, 4, 5, 6, 7, 8, 9, 10, 11, 12]⟩,
    ⟨some 56, .mov (.t 4), some (52, false), [0, 1, 2, 3, 4, 5, 6, 7, 8, 9, 10, 11, 12]⟩,
    ⟨some 57, .isl 2 (.t 55) (.t 56), some (52, false), [0, 1, 2, 3, 4, 5, 6, 7, 8, 9, 10, 11, 12, 15, 16]⟩,
    ⟨some 58, .fadr 0 (.t 57), some (52, false), [0, 1, 2, 3, 4, 5, 6, 7, 8, 9, 10, 11, 12, 15, 16, 17]⟩,
    ⟨some 59, .load false 1 (.t 58), some (52, false), [0, 1, 2, 3, 4, 5, 6, 7, 8, 9, 10, 11, 12, 15, 16, 17, 18]⟩,
    ⟨some 60, .bin .eql 0 (.t 54) (.t 59), some (52, false), [0, 1, 2, 3, 4, 5, 6, 7, 8, 9, 10, 11, 12, 13, 14, 15, 16, 17, 18, 19]⟩,
    ⟨some 61, .mov (.t 60), some (52, false), [0, 1, 2, 3, 4, 5, 6, 7, 8, 9, 10, 11, 12, 13, 14, 15, 16, 17, 18, 19, 20]⟩,
    ⟨some 62, .fadr 1 (.t 6), some (61, true), [0, 1, 2, 3, 4, 5, 6, 7, 8, 9, 10, 11, 12, 13, 14, 15, 16, 17, 18, 19, 20, 21]⟩,
    ⟨some 63, .load false 1 (.t 62), some (61, true), [0, 1, 2, 3, 4, 5, 6, 7, 8, 9, 10, 11, 12, 13, 14, 15, 16, 17, 18, 19, 20, 21, 22]⟩,
    ⟨some 64, .mov (.t 0), some (61, true), [0, 1, 2, 3, 4, 5, 6, 7, 8, 9, 10, 11, 12, 13, 14, 15, 16, 17, 18, 19, 20, 21]⟩,
    ⟨some 65, .mov (.t 4), some (61, true), [0, 1, 2, 3, 4, 5, 6, 7, 8, 9, 10, 11, 12, 13, 14, 15, 16, 17, 18, 19, 20, 21]⟩,
    ⟨some 66, .isl 2 (.t 64) (.t 65), some (61, true), [0, 1, 2, 3, 4, 5, 6, 7, 8, 9, 10, 11, 12, 13, 14, 15, 16, 17, 18, 19, 20, 21, 24, 25]⟩,
    ⟨some 67, .fadr 1 (.t 66), some (61, true), [0, 1, 2, 3, 4, 5, 6, 7, 8, 9, 10, 11, 12, 13, 14, 15, 16, 17, 18, 19, 20, 21, 24, 25, 26]⟩,
    ⟨some 68, .load false 1 (.t 67), some (61, true), [0, 1, 2, 3, 4, 5, 6, 7, 8, 9, 10, 11, 12, 13, 14, 15, 16, 17, 18, 19, 20, 21, 24, 25, 26, 27]⟩,
    ⟨some 69, .bin .gtr 0 (.t 63) (.t 68), some (61, true), [0, 1, 2, 3, 4, 5, 6, 7, 8, 9, 10, 11, 12, 13, 14, 15, 16, 17, 18, 19, 20, 21, 22, 23, 24, 25, 26, 27, 28]⟩,
    ⟨some 70, .pick (.t 61) (.t 69) (.c (.bool false)), some (52, false), [0, 1, 2, 3, 4, 5, 6, 7, 8, 9, 10, 11, 12, 13, 14, 15, 16, 17, 18, 19, 20, 21, 22, 23, 24, 25, 26, 27, 28, 29]⟩,
    ⟨some 71, .pick (.t 52) (.c (.bool true)) (.t 70), none, [0, 1, 2, 3, 4, 5, 6, 7, 8, 9, 10, 11, 12, 13, 14, 15, 16, 17, 18, 19, 20, 21, 22, 23, 24, 25, 26, 27, 28, 29, 30]⟩] [0, 3, 4, 5, 71])
   (.cond (.t 71) (.rgn false [⟨some 72, .mov (.t 5), none, []⟩,
    ⟨some 4, .mov (.t 72), none, []⟩] [0, 3, 4, 5])
   (.skip))))))
   (.rgn false [⟨some 12, .mov (.t 5), none, []⟩,
    ⟨some 13, .bin .add 0 (.t 12) (.c (.int .i64 (1))), none, []⟩,
    ⟨some 5, .mov (.t 13), none, []⟩] [0, 3, 4, 5]))))))
   (.seq (.seq (.rgn false [⟨some 73, .mov (.t 4), none, []⟩,
    ⟨some 74, .bin .lss 0 (.t 73) (.c (.int .i64 (0))), none, []⟩] [0, 3, 4, 74])
   (.cond (.t 74) (.seq (.rgn false [⟨some 75, .mov (.t 3), none, []⟩,
    ⟨some 2, .mov (.t 75), none, []⟩] [2])
   (.ret))
   (.skip)))
   (.seq (.rgn false [⟨some 76, .mov (.t 0), none, []⟩,
    ⟨some 77, .mov (.t 4), none, []⟩,
    ⟨some 78, .isl 2 (.t 76) (.t 77), none, []⟩,
    ⟨some 79, .load true 2 (.t 78), none, []⟩,
    ⟨some 7, .alloc [.int .i64 0, .int .i64 0], none, []⟩,
    ⟨none, .store 2 (.t 7) (.t 79), none, []⟩] [0, 3, 7])
   (.seq (.rgn true [⟨some 80, .mov (.t 3), none, []⟩,
    ⟨some 81, .len false (.t 80), none, [0]⟩,
    ⟨some 82, .bin .gtr 0 (.t 81) (.c (.int .i64 (0))), none, [0, 1]⟩,
    ⟨some 83, .mov (.t 82), none, [0, 1, 2]⟩,
    ⟨some 84, .fadr 0 (.t 7), some (83, true), [0, 1, 2, 3]⟩,
    ⟨some 85, .load false 1 (.t 84), some (83, true), [0, 1, 2, 3, 4]⟩,
    ⟨some 86, .mov (.t 3), some (83, true), [0, 1, 2, 3]⟩,
    ⟨some 87, .mov (.t 3), some (83, true), [0, 1, 2, 3]⟩,
    ⟨some 88, .len false (.t 87), some (83, true), [0, 1, 2, 3, 7]⟩,
    ⟨some 89, .bin .sub 0 (.t 88) (.c (.int .i64 (1))), some (83, true), [0, 1, 2, 3, 7, 8]⟩,
    ⟨some 90, .isl 2 (.t 86) (.t 89), some (83, true), [0, 1, 2, 3, 6, 7, 8, 9]⟩,
    ⟨some 91, .fadr 1 (.t 90), some (83, true), [0, 1, 2, 3, 6, 7, 8, 9, 10]⟩,
    ⟨some 92, .load false 1 (.t 91), some (83, true), [0, 1, 2, 3, 6, 7, 8, 9, 10, 11]⟩,
    ⟨some 93, .bin .add 0 (.t 92) (.c (.int .i64 (1))), some (83, true), [0, 1, 2, 3, 6, 7, 8, 9, 10, 11, 12]⟩,
    ⟨some 94, .bin .leq 0 (.t 85) (.t 93), some (83, true), [0, 1, 2, 3, 4, 5, 6, 7, 8, 9, 10, 11, 12, 13]⟩,
    ⟨some 95, .pick (.t 83) (.t 94) (.c (.bool false)), none, [0, 1, 2, 3, 4, 5, 6, 7, 8, 9, 10, 11, 12, 13, 14]⟩] [0, 3, 7, 95])
   (.cond (.t 95) (.rgn false [⟨some 96, .mov (.t 3), none, []⟩,
    ⟨some 97, .mov (.t 3), none, []⟩,
    ⟨some 98, .len false (.t 97), none, []⟩,
    ⟨some 99, .bin .sub 0 (.t 98) (.c (.int .i64 (1))), none, []⟩,
    ⟨some 100, .fadr 1 (.t 7), none, []⟩,
    ⟨some 101, .load false 1 (.t 100), none, []⟩,
    ⟨some 102, .isl 2 (.t 96) (.t 99), none, []⟩,
    ⟨some 103, .fadr 1 (.t 102), none, []⟩,
    ⟨none, .store 1 (.t 103) (.t 101), none, []⟩] [0, 3])
   (.rgn false [⟨some 104, .mov (.t 3), none, []⟩,
    ⟨some 105, .load true 2 (.t 7), none, []⟩,
    ⟨some 106, .bsl 2 [.int .i64 0, .int .i64 0] 1 [(0, .t 105)], none, []⟩,
    ⟨some 107, .app 2 (.t 104) (.t 106), none, []⟩,
    ⟨some 3, .mov (.t 107), none, []⟩] [0, 3]))))))))))), none⟩
/-- arbour/arbourref03.Empty -/
def F108 : IFn := ⟨1, [.t 2],
   .seq (.rgn false [⟨some 1, .box (.t 0), none, []⟩,
    ⟨some 2, .mov (.c (.bool false)), none, []⟩] [1])
   (.seq (.rgn false [⟨some 3, .fadr 0 (.t 1), none, []⟩,
    ⟨some 4, .load false 1 (.t 3), none, []⟩,
    ⟨some 5, .un .not (.t 4), none, []⟩,
    ⟨some 6, .mov (.t 5), none, []⟩,
    ⟨some 7, .fadr 1 (.t 1), some (6, true), []⟩,
    ⟨some 8, .load false 1 (.t 7), some (6, true), []⟩,
    ⟨some 9, .len false (.t 8), some (6, true), []⟩,
    ⟨some 10, .bin .eql 0 (.t 9) (.c (.int .i64 (0))), some (6, true), []⟩,
    ⟨some 11, .pick (.t 6) (.t 10) (.c (.bool false)), none, []⟩,
    ⟨some 12, .mov (.t 11), none, []⟩,
    ⟨some 13, .fadr 2 (.t 1), some (12, true), []⟩,
    ⟨some 14, .load false 1 (.t 13), some (12, true), []⟩,
    ⟨some 15, .un .not (.t 14), some (12, true), []⟩,
    ⟨some 16, .pick (.t 12) (.t 15) (.c (.bool false)), none, []⟩,
    ⟨some 17, .mov (.t 16), none, []⟩,
    ⟨some 18, .fadr 3 (.t 1), some (17, true), []⟩,
    ⟨some 19, .load false 1 (.t 18), some (17, true), []⟩,
    ⟨some 20, .len false (.t 19), some (17, true), []⟩,
    ⟨some 21, .bin .eql 0 (.t 20) (.c (.int .i64 (0))), some (17, true), []⟩,
    ⟨some 22, .pick (.t 17) (.t 21) (.c (.bool false)), none, []⟩,
    ⟨some 2, .mov (.t 22), none, []⟩] [2])
   (.ret)), none⟩
/-- arbour/arbourref03.In -/
def F109 : IFn := ⟨2, [.t 4],
   .seq (.rgn false [⟨some 2, .box (.t 0), none, []⟩,
    ⟨some 3, .box (.t 1), none, []⟩,
    ⟨some 4, .mov (.c (.bool false)), none, []⟩] [2, 3])
   (.seq (.rgn false [⟨some 7, .load true 4 (.t 2), none, []⟩,
    ⟨some 8, .load true 4 (.t 3), none, []⟩,
    ⟨some 9, .bsl 4 [.bool false, .nsl 2, .bool false, .nsl 1] 2 [(0, .t 7), (1, .t 8)], none, []⟩,
    ⟨some 10, .call 3 (.c (.fn 110 [])) [.t 9], none, []⟩,
    ⟨some 5, .mov (.t 10), none, []⟩] [2, 3, 5])
   (.seq (.seq (.rgn false [⟨some 6, .mov (.c (.int .i64 (0))), none, []⟩] [2, 3, 5, 6])
   (.block 0 (.loop [2, 3, 5, 6] (.seq (.seq (.rgn false [⟨some 11, .mov (.t 6), none, []⟩,
    ⟨some 12, .mov (.t 5), none, []⟩,
    ⟨some 13, .len false (.t 12), none, []⟩,
    ⟨some 14, .bin .lss 0 (.t 11) (.t 13), none, []⟩] [2, 3, 5, 6, 14])
   (.cond (.t 14) (.skip)
   (.exit 0)))
   (.seq (.block 1 (.seq (.rgn true [⟨some 17, .load true 4 (.t 2), none, []⟩,
    ⟨some 18, .mov (.t 5), none, []⟩,
    ⟨some 19, .mov (.t 6), none, []⟩,
    ⟨some 20, .isl 3 (.t 18) (.t 19), none, [1, 2]⟩,
    ⟨some 21, .load true 3 (.t 20), none, [1, 2, 3]⟩,
    ⟨some 22, .call 0 (.c (.fn 35 [])) [.t 17, .t 21], none, [0, 1, 2, 3, 4]⟩,
    ⟨some 23, .mov (.t 22), none, [0, 1, 2, 3, 4, 5]⟩,
    ⟨some 24, .load true 4 (.t 3), some (23, true), [0, 1, 2, 3, 4, 5, 6]⟩,
    ⟨some 25, .mov (.t 5), some (23, true), [0, 1, 2, 3, 4, 5, 6]⟩,
    ⟨some 26, .mov (.t 6), some (23, true), [0, 1, 2, 3, 4, 5, 6]⟩,
    ⟨some 27, .isl 3 (.t 25) (.t 26), some (23, true), [0, 1, 2, 3, 4, 5, 6, 8, 9]⟩,
    ⟨some 28, .load true 3 (.t 27), some (23, true), [0, 1, 2, 3, 4, 5, 6, 8, 9, 10]⟩,
    ⟨some 29, .call 0 (.c (.fn 35 [])) [.t 24, .t 28], some (23, true), [0, 1, 2, 3, 4, 5, 6, 7, 8, 9, 10, 11]⟩,
    ⟨some 30, .un .not (.t 29), some (23, true), [0, 1, 2, 3, 4, 5, 6, 7, 8, 9, 10, 11, 12]⟩,
    ⟨some 31, .pick (.t 23) (.t 30) (.c (.bool false)), none, [0, 1, 2, 3, 4, 5, 6, 7, 8, 9, 10, 11, 12, 13]⟩] [2, 3, 5, 6, 31])
   (.cond (.t 31) (.seq (.rgn false [⟨some 4, .mov (.c (.bool false)), none, []⟩] [4])
   (.ret))
   (.skip))))
   (.rgn false [⟨some 15, .mov (.t 6), none, []⟩,
    ⟨some 16, .bin .add 0 (.t 15) (.c (.int .i64 (1))), none, []⟩,
    ⟨some 6, .mov (.t 16), none, []⟩] [2, 3, 5, 6]))))))
   (.seq (.rgn false [⟨some 4, .mov (.c (.bool true)), none, []⟩] [4])
   (.ret)))), none⟩
/-- arbour/arbourref03.Points -/
def F110 : IFn := ⟨1, [.t 2],
   .seq (.rgn false [⟨some 2, .nil0 3, none, []⟩] [0])
   (.seq (.rgn false [⟨some 9, .build [.int .i64 0, .int .i64 0, .str ⟨#[]⟩] [], none, []⟩,
    ⟨some 10, .build [.int .i64 0, .int .i64 0, .str ⟨#[]⟩] [(0, 1, .c (.int .i64 (1))), (1, 1, .c (.int .i64 (-9223372036854775808)))], none, []⟩,
    ⟨some 11, .build [.int .i64 0, .int .i64 0, .str ⟨#[]⟩] [(0, 1, .c (.int .i64 (1))), (1, 1, .c (.int .i64 (9223372036854775807)))], none, []⟩,
    ⟨some 12, .build [.int .i64 0, .int .i64 0, .str ⟨#[]⟩] [(0, 1, .c (.int .i64 (1)))], none, []⟩,
    ⟨some 13, .bsl 3 [.int .i64 0, .int .i64 0, .str ⟨#[]⟩] 4 [(0, .t 9), (1, .t 10), (2, .t 11), (3, .t 12)], none, []⟩,
    ⟨some 3, .mov (.t 13), none, []⟩] [0, 3])
   (.seq (.rgn false [⟨some 4, .mov (.c (.str ⟨#[126]⟩)), none, []⟩] [0, 3, 4])
   (.seq (.seq (.rgn false [⟨some 5, .mov (.c (.int .i64 (0))), none, []⟩] [0, 3, 4, 5])
   (.block 0 (.loop [0, 3, 4, 5] (.seq (.seq (.rgn false [⟨some 14, .mov (.t 5), none, []⟩,
    ⟨some 15, .mov (.t 0), none, []⟩,
    ⟨some 16, .len false (.t 15), none, []⟩,
    ⟨some 17, .bin .lss 0 (.t 14) (.t 16), none, []⟩] [0, 3, 4, 5, 17])
   (.cond (.t 17) (.skip)
   (.exit 0)))
   (.seq (.block 1 (.seq (.seq (.rgn false [⟨some 6, .mov (.c (.int .i64 (0))), none, []⟩] [0, 3, 4, 5, 6])
   (.block 2 (.loop [0, 3, 4, 5, 6] (.seq (.seq (.rgn false [⟨some 20, .mov (.t 6), none, []⟩,
    ⟨some 21, .mov (.t 0), none, []⟩,
    ⟨some 22, .mov (.t 5), none, []⟩,
    ⟨some 23, .isl 4 (.t 21) (.t 22), none, []⟩,
    ⟨some 24, .fadr 1 (.t 23), none, []⟩,
    ⟨some 25, .load false 1 (.t 24), none, []⟩,
    ⟨some 26, .len false (.t 25), none, []⟩,
    ⟨some 27, .bin .lss 0 (.t 20) (.t 26), none, []⟩] [0, 3, 4, 5, 6, 27])
   (.cond (.t 27) (.skip)
   (.exit 2)))
   (.seq (.block 3 (.seq (.rgn false [⟨some 30, .mov (.t 0), none, []⟩,
    ⟨some 31, .mov (.t 5), none, []⟩,
    ⟨some 32, .isl 4 (.t 30) (.t 31), none, []⟩,
    ⟨some 33, .fadr 1 (.t 32), none, []⟩,
    ⟨some 34, .load false 1 (.t 33), none, []⟩,
    ⟨some 35, .mov (.t 6), none, []⟩,
    ⟨some 36, .isl 2 (.t 34) (.t 35), none, []⟩,
    ⟨some 37, .load true 2 (.t 36), none, []⟩,
    ⟨some 7, .alloc [.int .i64 0, .int .i64 0], none, []⟩,
    ⟨none, .store 2 (.t 7) (.t 37), none, []⟩] [0, 3, 4, 5, 6, 7])
   (.seq (.rgn false [⟨some 38, .mov (.t 3), none, []⟩,
    ⟨some 39, .fadr 0 (.t 7), none, []⟩,
    ⟨some 40, .load false 1 (.t 39), none, []⟩,
    ⟨some 41, .build [.int .i64 0, .int .i64 0, .str ⟨#[]⟩] [(0, 1, .c (.int .i64 (1))), (1, 1, .t 40)], none, []⟩,
    ⟨some 42, .fadr 1 (.t 7), none, []⟩,
    ⟨some 43, .load false 1 (.t 42), none, []⟩,
    ⟨some 44, .build [.int .i64 0, .int .i64 0, .str ⟨#[]⟩] [(0, 1, .c (.int .i64 (1))), (1, 1, .t 43)], none, []⟩,
    ⟨some 45, .bsl 3 [.int .i64 0, .int .i64 0, .str ⟨#[]⟩] 2 [(0, .t 41), (1, .t 44)], none, []⟩,
    ⟨some 46, .app 3 (.t 38) (.t 45), none, []⟩,
    ⟨some 3, .mov (.t 46), none, []⟩] [0, 3, 4, 5, 6, 7])
   (.seq (.seq (.rgn false [⟨some 47, .fadr 0 (.t 7), none, []⟩,
    ⟨some 48, .load false 1 (.t 47), none, []⟩,
    ⟨some 49, .bin .gtr 0 (.t 48) (.c (.int .i64 (-9223372036854775808))), none, []⟩] [0, 3, 4, 5, 6, 7, 49])
   (.cond (.t 49) (.rgn false [⟨some 50, .mov (.t 3), none, []⟩,
    ⟨some 51, .fadr 0 (.t 7), none, []⟩,
    ⟨some 52, .load false 1 (.t 51), none, []⟩,
    ⟨some 53, .bin .sub 0 (.t 52) (.c (.int .i64 (1))), none, []⟩,
    ⟨some 54, .build [.int .i64 0, .int .i64 0, .str ⟨#[]⟩] [(0, 1, .c (.int .i64 (1))), (1, 1, .t 53)], none, []⟩,
    ⟨some 55, .bsl 3 [.int .i64 0, .int .i64 0, .str ⟨#[]⟩] 1 [(0, .t 54)], none, []⟩,
    ⟨some 56, .app 3 (.t 50) (.t 55), none, []⟩,
    ⟨some 3, .mov (.t 56), none, []⟩] [0, 3, 4, 5, 6, 7])
   (.skip)))
   (.seq (.rgn false [⟨some 57, .fadr 1 (.t 7), none, []⟩,
    ⟨some 58, .load false 1 (.t 57), none, []⟩,
    ⟨some 59, .bin .lss 0 (.t 58) (.c (.int .i64 (9223372036854775807))), none, []⟩] [0, 3, 4, 5, 6, 7, 59])
   (.cond (.t 59) (.rgn false [⟨some 60, .mov (.t 3), none, []⟩,
    ⟨some 61, .fadr 1 (.t 7), none, []⟩,
    ⟨some 62, .load false 1 (.t 61), none, []⟩,
    ⟨some 63, .bin .add 0 (.t 62) (.c (.int .i64 (1))), none, []⟩,
    ⟨some 64, .build [.int .i64 0, .int .i64 0, .str ⟨#[]⟩] [(0, 1, .c (.int .i64 (1))), (1, 1, .t 63)], none, []⟩,
    ⟨some 65, .bsl 3 [.int .i64 0, .int .i64 0, .str ⟨#[]⟩] 1 [(0, .t 64)], none, []⟩,
    ⟨some 66, .app 3 (.t 60) (.t 65), none, []⟩,
    ⟨some 3, .mov (.t 66), none, []⟩] [0, 3, 4, 5, 6])
   (.skip)))))))
   (.rgn false [⟨some 28, .mov (.t 6), none, []⟩,
    ⟨some 29, .bin .add 0 (.t 28) (.c (.int .i64 (1))), none, []⟩,
    ⟨some 6, .mov (.t 29), none, []⟩] [0, 3, 4, 5, 6]))))))
   (.seq (.rgn false [⟨some 8, .mov (.c (.int .i64 (0))), none, []⟩] [0, 3, 4, 5, 8])
   (.block 4 (.loop [0, 3, 4, 5, 8] (.seq (.seq (.rgn false [⟨some 67, .mov (.t 8), none, []⟩,
    ⟨some 68, .mov (.t 0), none, []⟩,
    ⟨some 69, .mov (.t 5), none, []⟩,
    ⟨some 70, .isl 4 (.t 68) (.t 69), none, []⟩,
    ⟨some 71, .fadr 3 (.t 70), none, []⟩,
    ⟨some 72, .load false 1 (.t 71), none, []⟩,
    ⟨some 73, .len false (.t 72), none, []⟩,
    ⟨some 74, .bin .lss 0 (.t 67) (.t 73), none, []⟩] [0, 3, 4, 5, 8, 74])
   (.cond (.t 74) (.skip)
   (.exit 4)))
   (.seq (.block 5 (.rgn false [⟨some 77, .mov (.t 3), none, []⟩,
    ⟨some 78, .mov (.t 0), none, []⟩,
    ⟨some 79, .mov (.t 5), none, []⟩,
    ⟨some 80, .isl 4 (.t 78) (.t 79), none, []⟩,
    ⟨some 81, .fadr 3 (.t 80), none, []⟩,
    ⟨some 82, .load false 1 (.t 81), none, []⟩,
    ⟨some 83, .mov (.t 8), none, []⟩,
    ⟨some 84, .isl 1 (.t 82) (.t 83), none, []⟩,
    ⟨some 85, .load false 1 (.t 84), none, []⟩,
    ⟨some 86, .build [.int .i64 0, .int .i64 0, .str ⟨#[]⟩] [(0, 1, .c (.int .i64 (2))), (2, 1, .t 85)], none, []⟩,
    ⟨some 87, .bsl 3 [.int .i64 0, .int .i64 0, .str ⟨#[]⟩] 1 [(0, .t 86)], none, []⟩,
    ⟨some 88, .app 3 (.t 77) (.t 87), none, []⟩,
    ⟨some 3, .mov (.t 88), none, []⟩] [0, 3, 4, 5, 8]))
   (.rgn false [⟨some 75, .mov (.t 8), none, []⟩,
    ⟨some 76, .bin .add 0 (.t 75) (.c (.int .i64 (1))), none, []⟩,
    ⟨some 8, .mov (.t 76), none, []⟩] [0, 3, 4, 5, 8]))))))))
   (.rgn false [⟨some 18, .mov (.t 5), none, []⟩,
    ⟨some 19, .bin .add 0 (.t 18) (.c (.int .i64 (1))), none, []⟩,
    ⟨some 5, .mov (.t 19), none, []⟩] [0, 3, 4, 5]))))))
   (.seq (.rgn false [⟨some 89, .mov (.t 3), none, []⟩,
    ⟨some 90, .mov (.t 0), none, []⟩,
    ⟨some 91, .mov (.t 4), none, []⟩,
    ⟨some 92, .call 0 (.c (.fn 111 [])) [.t 90, .t 91], none, []⟩,
    ⟨some 93, .build [.int .i64 0, .int .i64 0, .str ⟨#[]⟩] [(0, 1, .c (.int .i64 (2))), (2, 1, .t 92)], none, []⟩,
    ⟨some 94, .bsl 3 [.int .i64 0, .int .i64 0, .str ⟨#[]⟩] 1 [(0, .t 93)], none, []⟩,
    ⟨some 95, .app 3 (.t 89) (.t 94), none, []⟩,
    ⟨some 2, .mov (.t 95), none, []⟩] [2])
   (.ret))))), none⟩
/-- arbour/arbourref03.Fresh -/
def F111 : IFn := ⟨2, [.t 4],
   .seq (.rgn false [⟨some 4, .mov (.c (.str ⟨#[]⟩)), none, []⟩] [0, 1])
   (.seq (.seq (.rgn false [⟨some 5, .mov (.c (.int .i64 (0))), none, []⟩] [0, 1, 5])
   (.block 0 (.loop [0, 1, 5] (.seq (.seq (.rgn false [⟨some 9, .mov (.t 5), none, []⟩,
    ⟨some 10, .bin .lss 0 (.t 9) (.c (.int .i64 (100000))), none, []⟩] [0, 1, 5, 10])
   (.cond (.t 10) (.skip)
   (.exit 0)))
   (.seq (.block 1 (.seq (.rgn false [⟨some 13, .mov (.t 1), none, []⟩,
    ⟨some 14, .mov (.t 5), none, []⟩,
    ⟨some 15, .call 0 (.c (.fn 113 [])) [.t 14], none, []⟩,
    ⟨some 16, .bin .add 0 (.t 13) (.t 15), none, []⟩,
    ⟨some 6, .mov (.t 16), none, []⟩] [0, 1, 5, 6])
   (.seq (.rgn false [⟨some 7, .mov (.c (.bool false)), none, []⟩] [0, 1, 5, 6, 7])
   (.seq (.seq (.rgn false [⟨some 8, .mov (.c (.int .i64 (0))), none, []⟩] [0, 1, 5, 6, 7, 8])
   (.block 2 (.loop [0, 1, 5, 6, 7, 8] (.seq (.seq (.rgn false [⟨some 17, .mov (.t 8), none, []⟩,
    ⟨some 18, .mov (.t 0), none, []⟩,
    ⟨some 19, .len false (.t 18), none, []⟩,
    ⟨some 20, .bin .lss 0 (.t 17) (.t 19), none, []⟩] [0, 1, 5, 6, 7, 8, 20])
   (.cond (.t 20) (.skip)
   (.exit 2)))
   (.seq (.block 3 (.rgn false [⟨some 23, .mov (.t 7), none, []⟩,
    ⟨some 24, .mov (.t 23), none, []⟩,
    ⟨some 25, .mov (.t 0), some (24, false), []⟩,
    ⟨some 26, .mov (.t 8), some (24, false), []⟩,
    ⟨some 27, .isl 4 (.t 25) (.t 26), some (24, false), []⟩,
    ⟨some 28, .fadr 3 (.t 27), some (24, false), []⟩,
    ⟨some 29, .load false 1 (.t 28), some (24, false), []⟩,
    ⟨some 30, .mov (.t 6), some (24, false), []⟩,
    ⟨some 31, .call 0 (.c (.fn 49 [])) [.t 29, .t 30], some (24, false), []⟩,
    ⟨some 32, .pick (.t 24) (.c (.bool true)) (.t 31), none, []⟩,
    ⟨some 7, .mov (.t 32), none, []⟩] [0, 1, 5, 6, 7, 8]))
   (.rgn false [⟨some 21, .mov (.t 8), none, []⟩,
    ⟨some 22, .bin .add 0 (.t 21) (.c (.int .i64 (1))), none, []⟩,
    ⟨some 8, .mov (.t 22), none, []⟩] [0, 1, 5, 6, 7, 8]))))))
   (.seq (.rgn false [⟨some 33, .mov (.t 7), none, []⟩,
    ⟨some 34, .un .not (.t 33), none, []⟩] [0, 1, 5, 6, 34])
   (.cond (.t 34) (.seq (.rgn false [⟨some 35, .mov (.t 6), none, []⟩,
    ⟨some 4, .mov (.t 35), none, []⟩] [4])
   (.ret))
   (.skip)))))))
   (.rgn false [⟨some 11, .mov (.t 5), none, []⟩,
    ⟨some 12, .bin .add 0 (.t 11) (.c (.int .i64 (1))), none, []⟩,
    ⟨some 5, .mov (.t 12), none, []⟩] [0, 1, 5]))))))
   (.seq (.rgn false [⟨some 36, .mov (.t 1), none, []⟩,
    ⟨some 4, .mov (.t 36), none, []⟩] [4])
   (.ret))), none⟩
/-- arbour/arbourref12.Between -/
def F112 : IFn := ⟨2, [.t 4, .t 5],
   .seq (.rgn false [⟨some 2, .box (.t 0), none, []⟩,
    ⟨some 3, .box (.t 1), none, []⟩,
    ⟨some 4, .mov (.c (.int .u64 (0))), none, []⟩,
    ⟨some 5, .mov (.c (.bool false)), none, []⟩] [2, 3])
   (.seq (.seq (.rgn false [⟨some 6, .fadr 0 (.t 2), none, []⟩,
    ⟨some 7, .load false 1 (.t 6), none, []⟩,
    ⟨some 8, .fadr 1 (.t 2), none, []⟩,
    ⟨some 9, .load false 1 (.t 8), none, []⟩,
    ⟨some 10, .bin .gtr 0 (.t 7) (.t 9), none, []⟩,
    ⟨some 11, .mov (.t 10), none, []⟩,
    ⟨some 12, .fadr 0 (.t 3), some (11, false), []⟩,
    ⟨some 13, .load false 1 (.t 12), some (11, false), []⟩,
    ⟨some 14, .fadr 1 (.t 3), some (11, false), []⟩,
    ⟨some 15, .load false 1 (.t 14), some (11, false), []⟩,
    ⟨some 16, .bin .gtr 0 (.t 13) (.t 15), some (11, false), []⟩,
    ⟨some 17, .pick (.t 11) (.c (.bool true)) (.t 16), none, []⟩,
    ⟨some 18, .mov (.t 17), none, []⟩,
    ⟨some 19, .fadr 1 (.t 2), some (18, false), []⟩,
    ⟨some 20, .load false 1 (.t 19), some (18, false), []⟩,
    ⟨some 21, .fadr 0 (.t 3), some (18, false), []⟩,
    ⟨some 22, .load false 1 (.t 21), some (18, false), []⟩,
    ⟨some 23, .bin .geq 0 (.t 20) (.t 22), some (18, false), []⟩,
    ⟨some 24, .pick (.t 18) (.c (.bool true)) (.t 23), none, []⟩] [2, 3, 24])
   (.cond (.t 24) (.seq (.rgn false [⟨some 4, .mov (.c (.int .u64 (0))), none, []⟩,
    ⟨some 5, .mov (.c (.bool false)), none, []⟩] [4, 5])
   (.ret))
   (.skip)))
   (.seq (.rgn false [⟨some 25, .fadr 1 (.t 2), none, []⟩,
    ⟨some 26, .load false 1 (.t 25), none, []⟩,
    ⟨some 27, .fadr 0 (.t 3), none, []⟩,
    ⟨some 28, .load false 1 (.t 27), none, []⟩,
    ⟨some 29, .call 0 (.c (.fn 44 [])) [.t 26, .t 28], none, []⟩,
    ⟨some 30, .bin .quo 0 (.t 29) (.c (.int .u64 (2))), none, []⟩,
    ⟨some 4, .mov (.t 30), none, []⟩,
    ⟨some 5, .mov (.c (.bool true)), none, []⟩] [4, 5])
   (.ret))), none⟩
/-- arbour/arbourref01.Decimal -/
def F113 : IFn := ⟨1, [.t 2],
   .seq (.rgn false [⟨some 2, .mov (.c (.str ⟨#[]⟩)), none, []⟩] [0])
   (.seq (.seq (.rgn false [⟨some 4, .mov (.t 0), none, []⟩,
    ⟨some 5, .bin .lss 0 (.t 4) (.c (.int .i64 (0))), none, []⟩] [0, 5])
   (.cond (.t 5) (.seq (.rgn false [⟨some 6, .mov (.t 0), none, []⟩,
    ⟨some 7, .bin .add 0 (.t 6) (.c (.int .i64 (1))), none, []⟩,
    ⟨some 8, .un .neg (.t 7), none, []⟩,
    ⟨some 9, .cvi .u64 (.t 8), none, []⟩,
    ⟨some 10, .bin .add 0 (.t 9) (.c (.int .u64 (1))), none, []⟩,
    ⟨some 3, .mov (.t 10), none, []⟩] [3])
   (.seq (.rgn false [⟨some 11, .mov (.t 3), none, []⟩,
    ⟨some 12, .call 0 (.c (.fn 114 [])) [.t 11], none, []⟩,
    ⟨some 13, .bin .add 0 (.c (.str ⟨#[45]⟩)) (.t 12), none, []⟩,
    ⟨some 2, .mov (.t 13), none, []⟩] [2])
   (.ret)))
   (.skip)))
   (.seq (.rgn false [⟨some 14, .mov (.t 0), none, []⟩,
    ⟨some 15, .cvi .u64 (.t 14), none, []⟩,
    ⟨some 16, .call 0 (.c (.fn 114 [])) [.t 15], none, []⟩,
    ⟨some 2, .mov (.t 16), none, []⟩] [2])
   (.ret))), none⟩
/-- arbour/arbourref01.digits -/
def F114 : IFn := ⟨1, [.t 2],
   .seq (.rgn false [⟨some 2, .mov (.c (.str ⟨#[]⟩)), none, []⟩] [0])
   (.seq (.seq (.rgn false [⟨some 3, .mov (.t 0), none, []⟩,
    ⟨some 4, .bin .lss 0 (.t 3) (.c (.int .u64 (10))), none, []⟩] [0, 4])
   (.cond (.t 4) (.seq (.rgn false [⟨some 5, .mov (.t 0), none, []⟩,
    ⟨some 6, .bin .add 0 (.c (.int .u64 (48))) (.t 5), none, []⟩,
    ⟨some 7, .cvi .u8 (.t 6), none, []⟩,
    ⟨some 8, .bsl 1 [.int .u8 0] 1 [(0, .t 7)], none, []⟩,
    ⟨some 9, .cvb (.t 8), none, []⟩,
    ⟨some 2, .mov (.t 9), none, []⟩] [2])
   (.ret))
   (.skip)))
   (.seq (.rgn true [⟨some 10, .mov (.t 0), none, []⟩,
    ⟨some 11, .bin .quo 0 (.t 10) (.c (.int .u64 (10))), none, [0]⟩,
    ⟨some 12, .call 0 (.c (.fn 114 [])) [.t 11], none, [0, 1]⟩,
    ⟨some 13, .mov (.t 0), none, []⟩,
    ⟨some 14, .bin .rem 0 (.t 13) (.c (.int .u64 (10))), none, [3]⟩,
    ⟨some 15, .bin .add 0 (.c (.int .u64 (48))) (.t 14), none, [3, 4]⟩,
    ⟨some 16, .cvi .u8 (.t 15), none, [3, 4, 5]⟩,
    ⟨some 17, .bsl 1 [.int .u8 0] 1 [(0, .t 16)], none, [3, 4, 5, 6]⟩,
    ⟨some 18, .cvb (.t 17), none, [3, 4, 5, 6, 7]⟩,
    ⟨some 19, .bin .add 0 (.t 12) (.t 18), none, [0, 1, 2, 3, 4, 5, 6, 7, 8]⟩,
    ⟨some 2, .mov (.t 19), none, [0, 1, 2, 3, 4, 5, 6, 7, 8, 9]⟩] [2])
   (.ret))), none⟩
end Arb
