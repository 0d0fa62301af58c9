/-
  THE FUNCTIONS OF THE PROGRAM FOR THE ABSTRACT MACHINE: printed by gen.py.
-/
import Derived.Test.YtngjdhmpcgifbaaGreatArbA
import Derived.Test.YtngjdhmpcgifbaaGreatArbB
import Derived.Test.YtngjdhmpcgifbaaGreatArbC
import Derived.Test.YtngjdhmpcgifbaaGreatArbD
import Derived.Test.YtngjdhmpcgifbaaGreatArbE
import Derived.Test.YtngjdhmpcgifbaaGreatArbF
import Derived.Test.YtngjdhmpcgifbaaGreatArbG
namespace Arb
open Go
/-- arbour/tree.Check -/
def F131 : IFn := ⟨1, [.t 2],
   .seq (.rgn false [⟨some 1, .box (.t 0), none, []⟩,
    ⟨some 2, .mov (.c (.int .i64 (0))), none, []⟩] [1])
   (.seq (.seq (.rgn false [⟨some 7, .fadr 0 (.t 1), none, []⟩,
    ⟨some 8, .load false 1 (.t 7), none, []⟩,
    ⟨some 9, .len false (.t 8), none, []⟩,
    ⟨some 10, .bin .geq 0 (.t 9) (.c (.int .i64 (8))), none, []⟩] [1, 10])
   (.cond (.t 10) (.seq (.rgn false [⟨some 2, .mov (.c (.int .i64 (8))), none, []⟩] [2])
   (.ret))
   (.skip)))
   (.seq (.seq (.rgn false [⟨some 11, .fadr 0 (.t 1), none, []⟩,
    ⟨some 12, .load false 1 (.t 11), none, []⟩,
    ⟨some 13, .len false (.t 12), none, []⟩,
    ⟨some 14, .mov (.c (.int .i64 (0))), none, []⟩] [1, 12, 13, 14])
   (.block 0 (.loop [1, 12, 13, 14] (.seq (.rgn false [⟨some 15, .bin .lss 0 (.t 14) (.t 13), none, []⟩] [1, 12, 13, 14, 15])
   (.seq (.cond (.t 15) (.skip)
   (.exit 0))
   (.seq (.block 1 (.seq (.rgn false [⟨some 16, .mov (.t 14), none, []⟩,
    ⟨some 17, .isl 1 (.t 12) (.t 14), none, []⟩,
    ⟨some 18, .load false 1 (.t 17), none, []⟩,
    ⟨some 3, .mov (.t 16), none, []⟩,
    ⟨some 4, .mov (.t 18), none, []⟩] [1, 3, 4, 12, 13, 14])
   (.seq (.rgn false [⟨some 19, .mov (.t 4), none, []⟩,
    ⟨some 20, .bin .lss 0 (.t 19) (.c (.int .i64 (0))), none, []⟩,
    ⟨some 21, .mov (.t 20), none, []⟩,
    ⟨some 22, .mov (.t 4), some (21, false), []⟩,
    ⟨some 23, .mov (.t 3), some (21, false), []⟩,
    ⟨some 24, .bin .gtr 0 (.t 22) (.t 23), some (21, false), []⟩,
    ⟨some 25, .pick (.t 21) (.c (.bool true)) (.t 24), none, []⟩] [1, 12, 13, 14, 25])
   (.cond (.t 25) (.seq (.rgn false [⟨some 2, .mov (.c (.int .i64 (8))), none, []⟩] [2])
   (.ret))
   (.skip)))))
   (.rgn false [⟨some 26, .bin .add 0 (.t 14) (.c (.int .i64 (1))), none, []⟩,
    ⟨some 14, .mov (.t 26), none, []⟩] [1, 12, 13, 14])))))))
   (.seq (.seq (.rgn false [⟨some 27, .fadr 1 (.t 1), none, []⟩,
    ⟨some 28, .load false 1 (.t 27), none, []⟩,
    ⟨some 29, .len false (.t 28), none, []⟩,
    ⟨some 30, .bin .gtr 0 (.t 29) (.c (.int .i64 (8))), none, []⟩,
    ⟨some 31, .mov (.t 30), none, []⟩,
    ⟨some 32, .fadr 2 (.t 1), some (31, false), []⟩,
    ⟨some 33, .load false 1 (.t 32), some (31, false), []⟩,
    ⟨some 34, .bin .lss 0 (.t 33) (.c (.int .i64 (0))), some (31, false), []⟩,
    ⟨some 35, .pick (.t 31) (.c (.bool true)) (.t 34), none, []⟩,
    ⟨some 36, .mov (.t 35), none, []⟩,
    ⟨some 37, .fadr 2 (.t 1), some (36, false), []⟩,
    ⟨some 38, .load false 1 (.t 37), some (36, false), []⟩,
    ⟨some 39, .bin .gtr 0 (.t 38) (.c (.int .i64 (1000000))), some (36, false), []⟩,
    ⟨some 40, .pick (.t 36) (.c (.bool true)) (.t 39), none, []⟩,
    ⟨some 41, .mov (.t 40), none, []⟩,
    ⟨some 42, .fadr 3 (.t 1), some (41, false), []⟩,
    ⟨some 43, .load false 1 (.t 42), some (41, false), []⟩,
    ⟨some 44, .bin .eql 0 (.t 43) (.c (.int .u64 (18446744073709551615))), some (41, false), []⟩,
    ⟨some 45, .pick (.t 41) (.c (.bool true)) (.t 44), none, []⟩] [1, 45])
   (.cond (.t 45) (.seq (.rgn false [⟨some 2, .mov (.c (.int .i64 (1))), none, []⟩] [2])
   (.ret))
   (.skip)))
   (.seq (.seq (.rgn false [⟨some 46, .fadr 1 (.t 1), none, []⟩,
    ⟨some 47, .load false 1 (.t 46), none, []⟩,
    ⟨some 48, .len false (.t 47), none, []⟩,
    ⟨some 49, .mov (.c (.int .i64 (0))), none, []⟩] [1, 47, 48, 49])
   (.block 2 (.loop [1, 47, 48, 49] (.seq (.rgn false [⟨some 50, .bin .lss 0 (.t 49) (.t 48), none, []⟩] [1, 47, 48, 49, 50])
   (.seq (.cond (.t 50) (.skip)
   (.exit 2))
   (.seq (.block 3 (.seq (.rgn false [⟨some 51, .isl 1 (.t 47) (.t 49), none, []⟩,
    ⟨some 52, .load false 1 (.t 51), none, []⟩,
    ⟨some 6, .mov (.t 52), none, []⟩] [1, 6, 47, 48, 49])
   (.seq (.rgn false [⟨some 53, .mov (.t 6), none, []⟩,
    ⟨some 54, .bin .lss 0 (.t 53) (.c (.int .i64 (0))), none, []⟩,
    ⟨some 55, .mov (.t 54), none, []⟩,
    ⟨some 56, .mov (.t 6), some (55, false), []⟩,
    ⟨some 57, .fadr 0 (.t 1), some (55, false), []⟩,
    ⟨some 58, .load false 1 (.t 57), some (55, false), []⟩,
    ⟨some 59, .len false (.t 58), some (55, false), []⟩,
    ⟨some 60, .bin .gtr 0 (.t 56) (.t 59), some (55, false), []⟩,
    ⟨some 61, .pick (.t 55) (.c (.bool true)) (.t 60), none, []⟩] [1, 47, 48, 49, 61])
   (.cond (.t 61) (.seq (.rgn false [⟨some 2, .mov (.c (.int .i64 (1))), none, []⟩] [2])
   (.ret))
   (.skip)))))
   (.rgn false [⟨some 62, .bin .add 0 (.t 49) (.c (.int .i64 (1))), none, []⟩,
    ⟨some 49, .mov (.t 62), none, []⟩] [1, 47, 48, 49])))))))
   (.seq (.rgn false [⟨some 2, .mov (.c (.int .i64 (0))), none, []⟩] [2])
   (.ret)))))), none⟩
/-- arbour/tree.Links -/
def F132 : IFn := ⟨1, [.t 2],
   .seq (.rgn false [⟨some 1, .box (.t 0), none, []⟩,
    ⟨some 2, .nil0 2, none, []⟩] [1, 2])
   (.seq (.seq (.rgn false [⟨some 6, .load true 4 (.t 1), none, []⟩,
    ⟨some 7, .call 0 (.c (.fn 134 [])) [.t 6], none, []⟩,
    ⟨some 8, .mov (.c (.int .i64 (0))), none, []⟩] [1, 2, 7, 8])
   (.block 0 (.loop [1, 2, 7, 8] (.seq (.rgn false [⟨some 9, .bin .lss 0 (.t 8) (.t 7), none, []⟩] [1, 2, 7, 8, 9])
   (.seq (.cond (.t 9) (.skip)
   (.exit 0))
   (.seq (.block 1 (.seq (.rgn false [⟨some 10, .mov (.t 8), none, []⟩,
    ⟨some 3, .mov (.t 10), none, []⟩] [1, 2, 3, 7, 8])
   (.seq (.rgn false [⟨some 11, .load true 4 (.t 1), none, []⟩,
    ⟨some 12, .mov (.t 3), none, []⟩,
    ⟨some 13, .call 3 (.c (.fn 133 [])) [.t 11, .t 12], none, []⟩,
    ⟨some 14, .len false (.t 13), none, []⟩,
    ⟨some 15, .mov (.c (.int .i64 (0))), none, []⟩] [1, 2, 3, 7, 8, 13, 14, 15])
   (.block 2 (.loop [1, 2, 3, 7, 8, 13, 14, 15] (.seq (.rgn false [⟨some 16, .bin .lss 0 (.t 15) (.t 14), none, []⟩] [1, 2, 3, 7, 8, 13, 14, 15, 16])
   (.seq (.cond (.t 16) (.skip)
   (.exit 2))
   (.seq (.block 3 (.seq (.rgn false [⟨some 17, .isl 1 (.t 13) (.t 15), none, []⟩,
    ⟨some 18, .load false 1 (.t 17), none, []⟩,
    ⟨some 5, .mov (.t 18), none, []⟩] [1, 2, 3, 5, 7, 8, 13, 14, 15])
   (.rgn false [⟨some 19, .mov (.t 2), none, []⟩,
    ⟨some 20, .mov (.t 3), none, []⟩,
    ⟨some 21, .mov (.t 5), none, []⟩,
    ⟨some 22, .build [.int .i64 0, .int .i64 0] [(0, 1, .t 20), (1, 1, .t 21)], none, []⟩,
    ⟨some 23, .bsl 2 [.int .i64 0, .int .i64 0] 1 [(0, .t 22)], none, []⟩,
    ⟨some 24, .app 2 (.t 19) (.t 23), none, []⟩,
    ⟨some 2, .mov (.t 24), none, []⟩] [1, 2, 3, 7, 8, 13, 14, 15])))
   (.rgn false [⟨some 25, .bin .add 0 (.t 15) (.c (.int .i64 (1))), none, []⟩,
    ⟨some 15, .mov (.t 25), none, []⟩] [1, 2, 3, 7, 8, 13, 14, 15])))))))))
   (.rgn false [⟨some 26, .bin .add 0 (.t 8) (.c (.int .i64 (1))), none, []⟩,
    ⟨some 8, .mov (.t 26), none, []⟩] [1, 2, 7, 8])))))))
   (.seq (.rgn false [⟨some 27, .mov (.t 2), none, []⟩,
    ⟨some 2, .mov (.t 27), none, []⟩] [2])
   (.ret))), none⟩
/-- arbour/tree.Neighbors -/
def F133 : IFn := ⟨2, [.t 4],
   .seq (.rgn false [⟨some 2, .box (.t 0), none, []⟩,
    ⟨some 4, .nil0 1, none, []⟩] [1, 2, 4])
   (.seq (.seq (.rgn false [⟨some 7, .mov (.t 1), none, []⟩,
    ⟨some 8, .call 0 (.c (.fn 135 [])) [.t 2, .t 7], none, []⟩,
    ⟨some 9, .un .not (.t 8), none, []⟩] [1, 2, 4, 9])
   (.cond (.t 9) (.seq (.rgn false [⟨some 4, .nil0 1, none, []⟩] [4])
   (.ret))
   (.skip)))
   (.seq (.seq (.rgn false [⟨some 10, .mov (.t 1), none, []⟩,
    ⟨some 11, .bin .gtr 0 (.t 10) (.c (.int .i64 (0))), none, []⟩] [1, 2, 4, 11])
   (.cond (.t 11) (.rgn false [⟨some 12, .mov (.t 4), none, []⟩,
    ⟨some 13, .fadr 0 (.t 2), none, []⟩,
    ⟨some 14, .load false 1 (.t 13), none, []⟩,
    ⟨some 15, .mov (.t 1), none, []⟩,
    ⟨some 16, .bin .sub 0 (.t 15) (.c (.int .i64 (1))), none, []⟩,
    ⟨some 17, .isl 1 (.t 14) (.t 16), none, []⟩,
    ⟨some 18, .load false 1 (.t 17), none, []⟩,
    ⟨some 19, .bsl 1 [.int .i64 0] 1 [(0, .t 18)], none, []⟩,
    ⟨some 20, .app 1 (.t 12) (.t 19), none, []⟩,
    ⟨some 4, .mov (.t 20), none, []⟩] [1, 2, 4])
   (.skip)))
   (.seq (.seq (.rgn false [⟨some 21, .fadr 0 (.t 2), none, []⟩,
    ⟨some 22, .load false 1 (.t 21), none, []⟩,
    ⟨some 23, .len false (.t 22), none, []⟩,
    ⟨some 24, .mov (.c (.int .i64 (0))), none, []⟩] [1, 4, 22, 23, 24])
   (.block 0 (.loop [1, 4, 22, 23, 24] (.seq (.rgn false [⟨some 25, .bin .lss 0 (.t 24) (.t 23), none, []⟩] [1, 4, 22, 23, 24, 25])
   (.seq (.cond (.t 25) (.skip)
   (.exit 0))
   (.seq (.block 1 (.seq (.rgn false [⟨some 26, .mov (.t 24), none, []⟩,
    ⟨some 27, .isl 1 (.t 22) (.t 24), none, []⟩,
    ⟨some 28, .load false 1 (.t 27), none, []⟩,
    ⟨some 5, .mov (.t 26), none, []⟩,
    ⟨some 6, .mov (.t 28), none, []⟩] [1, 4, 5, 6, 22, 23, 24])
   (.seq (.rgn false [⟨some 29, .mov (.t 6), none, []⟩,
    ⟨some 30, .mov (.t 1), none, []⟩,
    ⟨some 31, .bin .eql 0 (.t 29) (.t 30), none, []⟩] [1, 4, 5, 22, 23, 24, 31])
   (.cond (.t 31) (.rgn false [⟨some 32, .mov (.t 4), none, []⟩,
    ⟨some 33, .mov (.t 5), none, []⟩,
    ⟨some 34, .bin .add 0 (.t 33) (.c (.int .i64 (1))), none, []⟩,
    ⟨some 35, .bsl 1 [.int .i64 0] 1 [(0, .t 34)], none, []⟩,
    ⟨some 36, .app 1 (.t 32) (.t 35), none, []⟩,
    ⟨some 4, .mov (.t 36), none, []⟩] [1, 4, 22, 23, 24])
   (.skip)))))
   (.rgn false [⟨some 37, .bin .add 0 (.t 24) (.c (.int .i64 (1))), none, []⟩,
    ⟨some 24, .mov (.t 37), none, []⟩] [1, 4, 22, 23, 24])))))))
   (.seq (.rgn false [⟨some 38, .mov (.t 4), none, []⟩,
    ⟨some 4, .mov (.t 38), none, []⟩] [4])
   (.ret))))), none⟩
/-- arbour/tree.Size -/
def F134 : IFn := ⟨1, [.t 2],
   .seq (.rgn false [⟨some 1, .box (.t 0), none, []⟩,
    ⟨some 2, .mov (.c (.int .i64 (0))), none, []⟩] [1])
   (.seq (.seq (.rgn false [⟨some 3, .load true 4 (.t 1), none, []⟩,
    ⟨some 4, .call 0 (.c (.fn 131 [])) [.t 3], none, []⟩,
    ⟨some 5, .bin .neq 0 (.t 4) (.c (.int .i64 (0))), none, []⟩] [1, 5])
   (.cond (.t 5) (.seq (.rgn false [⟨some 2, .mov (.c (.int .i64 (0))), none, []⟩] [2])
   (.ret))
   (.skip)))
   (.seq (.rgn false [⟨some 6, .fadr 0 (.t 1), none, []⟩,
    ⟨some 7, .load false 1 (.t 6), none, []⟩,
    ⟨some 8, .len false (.t 7), none, []⟩,
    ⟨some 9, .bin .add 0 (.t 8) (.c (.int .i64 (1))), none, []⟩,
    ⟨some 2, .mov (.t 9), none, []⟩] [2])
   (.ret))), none⟩
/-- arbour/tree.broker -/
def F135 : IFn := ⟨2, [.t 4],
   .seq (.rgn false [⟨some 4, .mov (.c (.bool false)), none, []⟩] [0, 1])
   (.seq (.rgn false [⟨some 5, .mov (.t 1), none, []⟩,
    ⟨some 6, .bin .geq 0 (.t 5) (.c (.int .i64 (0))), none, []⟩,
    ⟨some 7, .mov (.t 6), none, []⟩,
    ⟨some 8, .mov (.t 1), some (7, true), []⟩,
    ⟨some 9, .mov (.t 0), some (7, true), []⟩,
    ⟨some 10, .nchk (.t 9), some (7, true), []⟩,
    ⟨some 11, .load true 4 (.t 10), some (7, true), []⟩,
    ⟨some 12, .call 0 (.c (.fn 134 [])) [.t 11], some (7, true), []⟩,
    ⟨some 13, .bin .lss 0 (.t 8) (.t 12), some (7, true), []⟩,
    ⟨some 14, .pick (.t 7) (.t 13) (.c (.bool false)), none, []⟩,
    ⟨some 4, .mov (.t 14), none, []⟩] [4])
   (.ret)), none⟩
/-- arbour/value.Event -/
def F137 : IFn := ⟨1, [.t 2],
   .seq (.rgn false [⟨some 1, .box (.t 0), none, []⟩,
    ⟨some 2, .mov (.c (.bool false)), none, []⟩] [1])
   (.seq (.seq (.rgn false [⟨some 5, .load true 12 (.t 1), none, []⟩,
    ⟨some 6, .mov (.c (.int .i64 (0))), none, []⟩] [5, 6])
   (.block 0 (.loop [5, 6] (.seq (.rgn false [⟨some 7, .bin .lss 0 (.t 6) (.c (.int .i64 (4))), none, []⟩] [5, 6, 7])
   (.seq (.cond (.t 7) (.skip)
   (.exit 0))
   (.seq (.block 1 (.seq (.rgn false [⟨some 8, .xarr true 4 3 (.t 5) (.t 6), none, []⟩,
    ⟨some 4, .alloc [.int .i64 0, .int .i64 0, .str ⟨#[]⟩], none, []⟩,
    ⟨none, .store 3 (.t 4) (.t 8), none, []⟩] [4, 5, 6])
   (.seq (.rgn false [⟨some 9, .load true 3 (.t 4), none, []⟩,
    ⟨some 10, .call 0 (.c (.fn 138 [])) [.t 9], none, []⟩,
    ⟨some 11, .un .not (.t 10), none, []⟩] [5, 6, 11])
   (.cond (.t 11) (.seq (.rgn false [⟨some 2, .mov (.c (.bool false)), none, []⟩] [2])
   (.ret))
   (.skip)))))
   (.rgn false [⟨some 12, .bin .add 0 (.t 6) (.c (.int .i64 (1))), none, []⟩,
    ⟨some 6, .mov (.t 12), none, []⟩] [5, 6])))))))
   (.seq (.rgn false [⟨some 2, .mov (.c (.bool true)), none, []⟩] [2])
   (.ret))), none⟩
/-- arbour/value.Right -/
def F138 : IFn := ⟨1, [.t 2],
   .seq (.rgn false [⟨some 1, .box (.t 0), none, []⟩,
    ⟨some 2, .mov (.c (.bool false)), none, []⟩] [1])
   (.seq (.seq (.rgn false [⟨some 3, .fadr 0 (.t 1), none, []⟩,
    ⟨some 4, .load false 1 (.t 3), none, []⟩] [1, 4])
   (.block 0 (.seq (.rgn false [⟨some 6, .bin .eql 0 (.t 4) (.c (.int .i64 (0))), none, []⟩,
    ⟨some 5, .mov (.t 6), none, []⟩] [1, 4, 5])
   (.cond (.t 5) (.seq (.rgn false [⟨some 7, .load true 3 (.t 1), none, []⟩,
    ⟨some 8, .build [.int .i64 0, .int .i64 0, .str ⟨#[]⟩] [], none, []⟩,
    ⟨some 9, .eqc false [0, 0, 2] (.t 7) (.t 8), none, []⟩,
    ⟨some 2, .mov (.t 9), none, []⟩] [2])
   (.ret))
   (.seq (.rgn false [⟨some 11, .bin .eql 0 (.t 4) (.c (.int .i64 (1))), none, []⟩,
    ⟨some 10, .mov (.t 11), none, []⟩] [1, 4, 10])
   (.cond (.t 10) (.seq (.rgn false [⟨some 12, .fadr 2 (.t 1), none, []⟩,
    ⟨some 13, .load false 1 (.t 12), none, []⟩,
    ⟨some 14, .bin .eql 0 (.t 13) (.c (.str ⟨#[]⟩)), none, []⟩,
    ⟨some 2, .mov (.t 14), none, []⟩] [2])
   (.ret))
   (.seq (.rgn false [⟨some 16, .bin .eql 0 (.t 4) (.c (.int .i64 (2))), none, []⟩,
    ⟨some 15, .mov (.t 16), none, []⟩] [1, 15])
   (.cond (.t 15) (.seq (.rgn false [⟨some 17, .fadr 1 (.t 1), none, []⟩,
    ⟨some 18, .load false 1 (.t 17), none, []⟩,
    ⟨some 19, .bin .eql 0 (.t 18) (.c (.int .i64 (0))), none, []⟩,
    ⟨some 20, .mov (.t 19), none, []⟩,
    ⟨some 21, .fadr 2 (.t 1), some (20, true), []⟩,
    ⟨some 22, .load false 1 (.t 21), some (20, true), []⟩,
    ⟨some 23, .len true (.t 22), some (20, true), []⟩,
    ⟨some 24, .bin .leq 0 (.t 23) (.c (.int .i64 (8))), some (20, true), []⟩,
    ⟨some 25, .pick (.t 20) (.t 24) (.c (.bool false)), none, []⟩,
    ⟨some 2, .mov (.t 25), none, []⟩] [2])
   (.ret))
   (.skip)))))))))
   (.seq (.rgn false [⟨some 2, .mov (.c (.bool false)), none, []⟩] [2])
   (.ret))), none⟩
/-- slices.ContainsFunc[[]arbour/api.Entry,arbour/api.Entry] -/
def F140 : IFn := ⟨2, [.t 4],
   .seq (.rgn false [⟨some 4, .mov (.c (.bool false)), none, []⟩] [0, 1])
   (.seq (.rgn false [⟨some 5, .mov (.t 0), none, []⟩,
    ⟨some 6, .mov (.t 1), none, []⟩,
    ⟨some 7, .call 0 (.c (.fn 147 [])) [.t 5, .t 6], none, []⟩,
    ⟨some 8, .bin .geq 0 (.t 7) (.c (.int .i64 (0))), none, []⟩,
    ⟨some 4, .mov (.t 8), none, []⟩] [4])
   (.ret)), none⟩
/-- slices.IndexFunc[[]arbour/api.Entry,arbour/api.Entry] -/
def F147 : IFn := ⟨2, [.t 4],
   .seq (.rgn false [⟨some 4, .mov (.c (.int .i64 (0))), none, []⟩] [0, 1])
   (.seq (.seq (.rgn false [⟨some 6, .mov (.t 0), none, []⟩,
    ⟨some 7, .len false (.t 6), none, []⟩,
    ⟨some 8, .mov (.c (.int .i64 (0))), none, []⟩] [0, 1, 7, 8])
   (.block 0 (.loop [0, 1, 7, 8] (.seq (.rgn false [⟨some 9, .bin .lss 0 (.t 8) (.t 7), none, []⟩] [0, 1, 7, 8, 9])
   (.seq (.cond (.t 9) (.skip)
   (.exit 0))
   (.seq (.block 1 (.seq (.rgn false [⟨some 10, .mov (.t 8), none, []⟩,
    ⟨some 5, .mov (.t 10), none, []⟩] [0, 1, 5, 7, 8])
   (.seq (.rgn false [⟨some 11, .mov (.t 1), none, []⟩,
    ⟨some 12, .mov (.t 0), none, []⟩,
    ⟨some 13, .mov (.t 5), none, []⟩,
    ⟨some 14, .isl 3 (.t 12) (.t 13), none, []⟩,
    ⟨some 15, .load true 3 (.t 14), none, []⟩,
    ⟨some 16, .call 0 (.t 11) [.t 15], none, []⟩] [0, 1, 5, 7, 8, 16])
   (.cond (.t 16) (.seq (.rgn false [⟨some 17, .mov (.t 5), none, []⟩,
    ⟨some 4, .mov (.t 17), none, []⟩] [4])
   (.ret))
   (.skip)))))
   (.rgn false [⟨some 18, .bin .add 0 (.t 8) (.c (.int .i64 (1))), none, []⟩,
    ⟨some 8, .mov (.t 18), none, []⟩] [0, 1, 7, 8])))))))
   (.seq (.rgn false [⟨some 4, .mov (.c (.int .i64 (-1))), none, []⟩] [4])
   (.ret))), none⟩
end Arb

/-
  THE FUNCTIONS OF THE PROGRAM FOR THE ABSTRACT MACHINE: printed by gen.py.
-/
namespace Arb
open Go
/-- arbour/arbourref05.Count -/
def F169 : IFn := ⟨2, [.t 4],
   .seq (.rgn false [⟨some 2, .box (.t 0), none, []⟩,
    ⟨some 4, .mov (.c (.int .i64 (0))), none, []⟩] [1, 2])
   (.seq (.rgn false [⟨some 5, .mov (.c (.int .i64 (1))), none, []⟩] [1, 2, 5])
   (.seq (.seq (.rgn false [⟨some 7, .mov (.t 1), none, []⟩,
    ⟨some 8, .bin .gtr 0 (.t 7) (.c (.int .i64 (20))), none, []⟩] [1, 2, 5, 8])
   (.cond (.t 8) (.seq (.rgn false [⟨some 4, .mov (.c (.int .i64 (100))), none, []⟩] [4])
   (.ret))
   (.skip)))
   (.seq (.seq (.rgn false [⟨some 6, .mov (.c (.int .i64 (0))), none, []⟩] [1, 2, 5, 6])
   (.block 0 (.loop [1, 2, 5, 6] (.seq (.seq (.rgn false [⟨some 9, .mov (.t 6), none, []⟩,
    ⟨some 10, .fadr 6 (.t 2), none, []⟩,
    ⟨some 11, .load false 1 (.t 10), none, []⟩,
    ⟨some 12, .len false (.t 11), none, []⟩,
    ⟨some 13, .bin .lss 0 (.t 9) (.t 12), none, []⟩,
    ⟨some 14, .mov (.t 13), none, []⟩,
    ⟨some 15, .mov (.t 5), some (14, true), []⟩,
    ⟨some 16, .bin .lss 0 (.t 15) (.c (.int .i64 (100))), some (14, true), []⟩,
    ⟨some 17, .pick (.t 14) (.t 16) (.c (.bool false)), none, []⟩] [1, 2, 5, 6, 17])
   (.cond (.t 17) (.skip)
   (.exit 0)))
   (.seq (.block 1 (.rgn false [⟨some 20, .mov (.t 5), none, []⟩,
    ⟨some 21, .fadr 6 (.t 2), none, []⟩,
    ⟨some 22, .load false 1 (.t 21), none, []⟩,
    ⟨some 23, .mov (.t 6), none, []⟩,
    ⟨some 24, .isl 7 (.t 22) (.t 23), none, []⟩,
    ⟨some 25, .load true 7 (.t 24), none, []⟩,
    ⟨some 26, .mov (.t 1), none, []⟩,
    ⟨some 27, .bin .add 0 (.t 26) (.c (.int .i64 (1))), none, []⟩,
    ⟨some 28, .call 0 (.c (.fn 169 [])) [.t 25, .t 27], none, []⟩,
    ⟨some 29, .bin .add 0 (.t 20) (.t 28), none, []⟩,
    ⟨some 5, .mov (.t 29), none, []⟩] [1, 2, 5, 6]))
   (.rgn false [⟨some 18, .mov (.t 6), none, []⟩,
    ⟨some 19, .bin .add 0 (.t 18) (.c (.int .i64 (1))), none, []⟩,
    ⟨some 6, .mov (.t 19), none, []⟩] [1, 2, 5, 6]))))))
   (.seq (.rgn false [⟨some 30, .mov (.t 5), none, []⟩,
    ⟨some 31, .mn (.t 30) [.c (.int .i64 (100))], none, []⟩,
    ⟨some 4, .mov (.t 31), none, []⟩] [4])
   (.ret))))), none⟩
/-- arbour/arbourref05.Deep -/
def F170 : IFn := ⟨2, [.t 4],
   .seq (.rgn false [⟨some 2, .box (.t 0), none, []⟩,
    ⟨some 4, .mov (.c (.int .i64 (0))), none, []⟩] [1, 2])
   (.seq (.rgn false [⟨some 5, .mov (.c (.int .i64 (0))), none, []⟩] [1, 2, 5])
   (.seq (.seq (.rgn false [⟨some 7, .mov (.t 1), none, []⟩,
    ⟨some 8, .bin .gtr 0 (.t 7) (.c (.int .i64 (20))), none, []⟩] [1, 2, 5, 8])
   (.cond (.t 8) (.seq (.rgn false [⟨some 4, .mov (.c (.int .i64 (20))), none, []⟩] [4])
   (.ret))
   (.skip)))
   (.seq (.seq (.rgn false [⟨some 6, .mov (.c (.int .i64 (0))), none, []⟩] [1, 2, 5, 6])
   (.block 0 (.loop [1, 2, 5, 6] (.seq (.seq (.rgn false [⟨some 9, .mov (.t 6), none, []⟩,
    ⟨some 10, .fadr 6 (.t 2), none, []⟩,
    ⟨some 11, .load false 1 (.t 10), none, []⟩,
    ⟨some 12, .len false (.t 11), none, []⟩,
    ⟨some 13, .bin .lss 0 (.t 9) (.t 12), none, []⟩,
    ⟨some 14, .mov (.t 13), none, []⟩,
    ⟨some 15, .mov (.t 6), some (14, true), []⟩,
    ⟨some 16, .bin .lss 0 (.t 15) (.c (.int .i64 (100))), some (14, true), []⟩,
    ⟨some 17, .pick (.t 14) (.t 16) (.c (.bool false)), none, []⟩] [1, 2, 5, 6, 17])
   (.cond (.t 17) (.skip)
   (.exit 0)))
   (.seq (.block 1 (.rgn false [⟨some 20, .mov (.t 5), none, []⟩,
    ⟨some 21, .fadr 6 (.t 2), none, []⟩,
    ⟨some 22, .load false 1 (.t 21), none, []⟩,
    ⟨some 23, .mov (.t 6), none, []⟩,
    ⟨some 24, .isl 7 (.t 22) (.t 23), none, []⟩,
    ⟨some 25, .load true 7 (.t 24), none, []⟩,
    ⟨some 26, .mov (.t 1), none, []⟩,
    ⟨some 27, .bin .add 0 (.t 26) (.c (.int .i64 (1))), none, []⟩,
    ⟨some 28, .call 0 (.c (.fn 170 [])) [.t 25, .t 27], none, []⟩,
    ⟨some 29, .mx (.t 20) [.t 28], none, []⟩,
    ⟨some 5, .mov (.t 29), none, []⟩] [1, 2, 5, 6]))
   (.rgn false [⟨some 18, .mov (.t 6), none, []⟩,
    ⟨some 19, .bin .add 0 (.t 18) (.c (.int .i64 (1))), none, []⟩,
    ⟨some 6, .mov (.t 19), none, []⟩] [1, 2, 5, 6]))))))
   (.seq (.rgn false [⟨some 30, .mov (.t 5), none, []⟩,
    ⟨some 31, .bin .add 0 (.t 30) (.c (.int .i64 (1))), none, []⟩,
    ⟨some 32, .mn (.t 31) [.c (.int .i64 (20))], none, []⟩,
    ⟨some 4, .mov (.t 32), none, []⟩] [4])
   (.ret))))), none⟩
/-- arbour/arbourref05.Few -/
def F203 : IFn := ⟨1, [.t 2],
   .seq (.rgn false [⟨some 1, .box (.t 0), none, []⟩,
    ⟨some 2, .mov (.c (.bool false)), none, []⟩] [1])
   (.seq (.seq (.rgn false [⟨some 3, .load true 7 (.t 1), none, []⟩,
    ⟨some 4, .call 0 (.c (.fn 169 [])) [.t 3, .c (.int .i64 (0))], none, []⟩,
    ⟨some 5, .bin .geq 0 (.t 4) (.c (.int .i64 (100))), none, []⟩,
    ⟨some 6, .mov (.t 5), none, []⟩,
    ⟨some 7, .load true 7 (.t 1), some (6, false), []⟩,
    ⟨some 8, .call 0 (.c (.fn 170 [])) [.t 7, .c (.int .i64 (0))], some (6, false), []⟩,
    ⟨some 9, .bin .geq 0 (.t 8) (.c (.int .i64 (20))), some (6, false), []⟩,
    ⟨some 10, .pick (.t 6) (.c (.bool true)) (.t 9), none, []⟩] [1, 10])
   (.cond (.t 10) (.seq (.rgn false [⟨some 2, .mov (.c (.bool false)), none, []⟩] [2])
   (.ret))
   (.skip)))
   (.seq (.rgn false [⟨some 11, .load true 7 (.t 1), none, []⟩,
    ⟨some 12, .call 0 (.c (.fn 204 [])) [.t 11], none, []⟩,
    ⟨some 2, .mov (.t 12), none, []⟩] [2])
   (.ret))), none⟩
/-- arbour/arbourref05.sets -/
def F204 : IFn := ⟨1, [.t 2],
   .seq (.rgn false [⟨some 1, .box (.t 0), none, []⟩,
    ⟨some 2, .mov (.c (.bool false)), none, []⟩] [1])
   (.seq (.seq (.rgn false [⟨some 4, .fadr 2 (.t 1), none, []⟩,
    ⟨some 5, .load true 4 (.t 4), none, []⟩,
    ⟨some 6, .bsl 4 [.bool false, .nsl 2, .bool false, .nsl 1] 1 [(0, .t 5)], none, []⟩,
    ⟨some 7, .call 0 (.c (.fn 27 [])) [.t 6], none, []⟩,
    ⟨some 8, .un .not (.t 7), none, []⟩] [1, 8])
   (.cond (.t 8) (.seq (.rgn false [⟨some 2, .mov (.c (.bool false)), none, []⟩] [2])
   (.ret))
   (.skip)))
   (.seq (.seq (.rgn false [⟨some 3, .mov (.c (.int .i64 (0))), none, []⟩] [1, 3])
   (.block 0 (.loop [1, 3] (.seq (.seq (.rgn false [⟨some 9, .mov (.t 3), none, []⟩,
    ⟨some 10, .fadr 6 (.t 1), none, []⟩,
    ⟨some 11, .load false 1 (.t 10), none, []⟩,
    ⟨some 12, .len false (.t 11), none, []⟩,
    ⟨some 13, .bin .lss 0 (.t 9) (.t 12), none, []⟩] [1, 3, 13])
   (.cond (.t 13) (.skip)
   (.exit 0)))
   (.seq (.block 1 (.seq (.rgn false [⟨some 16, .fadr 6 (.t 1), none, []⟩,
    ⟨some 17, .load false 1 (.t 16), none, []⟩,
    ⟨some 18, .mov (.t 3), none, []⟩,
    ⟨some 19, .isl 7 (.t 17) (.t 18), none, []⟩,
    ⟨some 20, .load true 7 (.t 19), none, []⟩,
    ⟨some 21, .call 0 (.c (.fn 204 [])) [.t 20], none, []⟩,
    ⟨some 22, .un .not (.t 21), none, []⟩] [1, 3, 22])
   (.cond (.t 22) (.seq (.rgn false [⟨some 2, .mov (.c (.bool false)), none, []⟩] [2])
   (.ret))
   (.skip))))
   (.rgn false [⟨some 14, .mov (.t 3), none, []⟩,
    ⟨some 15, .bin .add 0 (.t 14) (.c (.int .i64 (1))), none, []⟩,
    ⟨some 3, .mov (.t 15), none, []⟩] [1, 3]))))))
   (.seq (.rgn false [⟨some 2, .mov (.c (.bool true)), none, []⟩] [2])
   (.ret)))), none⟩
/-- arbour/arbourref16.Few -/
def F202 : IFn := ⟨1, [.t 2],
   .seq (.rgn false [⟨some 1, .box (.t 0), none, []⟩,
    ⟨some 2, .mov (.c (.bool false)), none, []⟩] [1])
   (.seq (.rgn false [⟨some 3, .fadr 0 (.t 1), none, []⟩,
    ⟨some 4, .load false 1 (.t 3), none, []⟩,
    ⟨some 5, .len false (.t 4), none, []⟩,
    ⟨some 6, .bin .leq 0 (.t 5) (.c (.int .i64 (100))), none, []⟩,
    ⟨some 7, .mov (.t 6), none, []⟩,
    ⟨some 8, .fadr 1 (.t 1), some (7, true), []⟩,
    ⟨some 9, .load false 1 (.t 8), some (7, true), []⟩,
    ⟨some 10, .len false (.t 9), some (7, true), []⟩,
    ⟨some 11, .bin .leq 0 (.t 10) (.c (.int .i64 (100))), some (7, true), []⟩,
    ⟨some 12, .pick (.t 7) (.t 11) (.c (.bool false)), none, []⟩,
    ⟨some 2, .mov (.t 12), none, []⟩] [2])
   (.ret)), none⟩
/-- arbour/arbourref20.Few -/
def F201 : IFn := ⟨2, [.t 4],
   .seq (.rgn false [⟨some 2, .box (.t 0), none, []⟩,
    ⟨some 4, .mov (.c (.bool false)), none, []⟩] [1, 2])
   (.seq (.rgn false [⟨some 5, .mov (.c (.int .i64 (0))), none, []⟩] [1, 2, 5])
   (.seq (.seq (.rgn false [⟨some 6, .mov (.c (.int .i64 (0))), none, []⟩] [1, 2, 5, 6])
   (.block 0 (.loop [1, 2, 5, 6] (.seq (.seq (.rgn false [⟨some 8, .mov (.t 6), none, []⟩,
    ⟨some 9, .mov (.t 1), none, []⟩,
    ⟨some 10, .len false (.t 9), none, []⟩,
    ⟨some 11, .bin .lss 0 (.t 8) (.t 10), none, []⟩] [1, 2, 5, 6, 11])
   (.cond (.t 11) (.skip)
   (.exit 0)))
   (.seq (.block 1 (.seq (.rgn false [⟨some 14, .mov (.t 1), none, []⟩,
    ⟨some 15, .mov (.t 6), none, []⟩,
    ⟨some 16, .isl 24 (.t 14) (.t 15), none, []⟩,
    ⟨some 17, .load true 24 (.t 16), none, []⟩,
    ⟨some 7, .alloc [.int .i64 0, .int .i64 0, .int .i64 0, .int .i64 0, .int .i64 0, .int .i64 0, .int .i64 0, .bool false, .nsl 2, .bool false, .nsl 1, .nsl 7, .int .i64 0, .int .i64 0, .str ⟨#[]⟩, .int .i64 0, .int .i64 0, .str ⟨#[]⟩, .int .i64 0, .int .i64 0, .str ⟨#[]⟩, .int .i64 0, .int .i64 0, .str ⟨#[]⟩], none, []⟩,
    ⟨none, .store 24 (.t 7) (.t 17), none, []⟩] [1, 2, 5, 6, 7])
   (.seq (.seq (.rgn false [⟨some 18, .fadr 5 (.t 7), none, []⟩,
    ⟨some 19, .load true 7 (.t 18), none, []⟩,
    ⟨some 20, .call 0 (.c (.fn 203 [])) [.t 19], none, []⟩,
    ⟨some 21, .un .not (.t 20), none, []⟩,
    ⟨some 22, .mov (.t 21), none, []⟩,
    ⟨some 23, .fadr 12 (.t 7), some (22, false), []⟩,
    ⟨some 24, .iarr 4 3 (.t 23) (.c (.int .i64 (0))), some (22, false), []⟩,
    ⟨some 25, .fadr 2 (.t 24), some (22, false), []⟩,
    ⟨some 26, .load false 1 (.t 25), some (22, false), []⟩,
    ⟨some 27, .len true (.t 26), some (22, false), []⟩,
    ⟨some 28, .fadr 12 (.t 7), some (22, false), []⟩,
    ⟨some 29, .iarr 4 3 (.t 28) (.c (.int .i64 (1))), some (22, false), []⟩,
    ⟨some 30, .fadr 2 (.t 29), some (22, false), []⟩,
    ⟨some 31, .load false 1 (.t 30), some (22, false), []⟩,
    ⟨some 32, .len true (.t 31), some (22, false), []⟩,
    ⟨some 33, .bin .add 0 (.t 27) (.t 32), some (22, false), []⟩,
    ⟨some 34, .fadr 12 (.t 7), some (22, false), []⟩,
    ⟨some 35, .iarr 4 3 (.t 34) (.c (.int .i64 (2))), some (22, false), []⟩,
    ⟨some 36, .fadr 2 (.t 35), some (22, false), []⟩,
    ⟨some 37, .load false 1 (.t 36), some (22, false), []⟩,
    ⟨some 38, .len true (.t 37), some (22, false), []⟩,
    ⟨some 39, .bin .add 0 (.t 33) (.t 38), some (22, false), []⟩,
    ⟨some 40, .fadr 12 (.t 7), some (22, false), []⟩,
    ⟨some 41, .iarr 4 3 (.t 40) (.c (.int .i64 (3))), some (22, false), []⟩,
    ⟨some 42, .fadr 2 (.t 41), some (22, false), []⟩,
    ⟨some 43, .load false 1 (.t 42), some (22, false), []⟩,
    ⟨some 44, .len true (.t 43), some (22, false), []⟩,
    ⟨some 45, .bin .add 0 (.t 39) (.t 44), some (22, false), []⟩,
    ⟨some 46, .bin .gtr 0 (.t 45) (.c (.int .i64 (300))), some (22, false), []⟩,
    ⟨some 47, .pick (.t 22) (.c (.bool true)) (.t 46), none, []⟩] [1, 2, 5, 6, 7, 47])
   (.cond (.t 47) (.seq (.rgn false [⟨some 4, .mov (.c (.bool false)), none, []⟩] [4])
   (.ret))
   (.skip)))
   (.seq (.rgn false [⟨some 48, .fadr 0 (.t 7), none, []⟩,
    ⟨some 49, .load false 1 (.t 48), none, []⟩,
    ⟨some 50, .bin .eql 0 (.t 49) (.c (.int .i64 (1))), none, []⟩] [1, 2, 5, 6, 50])
   (.cond (.t 50) (.rgn false [⟨some 51, .mov (.t 5), none, []⟩,
    ⟨some 52, .bin .add 0 (.t 51) (.c (.int .i64 (1))), none, []⟩,
    ⟨some 5, .mov (.t 52), none, []⟩] [1, 2, 5, 6])
   (.skip))))))
   (.rgn false [⟨some 12, .mov (.t 6), none, []⟩,
    ⟨some 13, .bin .add 0 (.t 12) (.c (.int .i64 (1))), none, []⟩,
    ⟨some 6, .mov (.t 13), none, []⟩] [1, 2, 5, 6]))))))
   (.seq (.rgn false [⟨some 53, .load true 4 (.t 2), none, []⟩,
    ⟨some 54, .call 0 (.c (.fn 202 [])) [.t 53], none, []⟩,
    ⟨some 55, .mov (.t 54), none, []⟩,
    ⟨some 56, .mov (.t 5), some (55, true), []⟩,
    ⟨some 57, .bin .leq 0 (.t 56) (.c (.int .i64 (16))), some (55, true), []⟩,
    ⟨some 58, .pick (.t 55) (.t 57) (.c (.bool false)), none, []⟩,
    ⟨some 59, .mov (.t 58), none, []⟩,
    ⟨some 60, .mov (.t 1), some (59, true), []⟩,
    ⟨some 61, .len false (.t 60), some (59, true), []⟩,
    ⟨some 62, .bin .leq 0 (.t 61) (.c (.int .i64 (120))), some (59, true), []⟩,
    ⟨some 63, .pick (.t 59) (.t 62) (.c (.bool false)), none, []⟩,
    ⟨some 4, .mov (.t 63), none, []⟩] [4])
   (.ret)))), none⟩
end Arb
