/-
  THE FUNCTIONS OF THE PROGRAM FOR THE ABSTRACT MACHINE: printed by gen.py.
-/
import Derived.Test.YtngjdhmpcgifbaaGreatArbA
import Derived.Test.YtngjdhmpcgifbaaGreatArbB
import Derived.Test.YtngjdhmpcgifbaaGreatArbC
import Derived.Test.YtngjdhmpcgifbaaGreatArbD
import Derived.Test.YtngjdhmpcgifbaaGreatArbE
namespace Arb
open Go
/-- arbour/arbourref03.Few -/
def F27 : IFn := ⟨1, [.t 2],
   .seq (.rgn false [⟨some 2, .mov (.c (.bool false)), none, []⟩] [0])
   (.seq (.seq (.rgn false [⟨some 3, .mov (.c (.int .i64 (0))), none, []⟩] [0, 3])
   (.block 0 (.loop [0, 3] (.seq (.seq (.rgn false [⟨some 5, .mov (.t 3), none, []⟩,
    ⟨some 6, .mov (.t 0), none, []⟩,
    ⟨some 7, .len false (.t 6), none, []⟩,
    ⟨some 8, .bin .lss 0 (.t 5) (.t 7), none, []⟩] [0, 3, 8])
   (.cond (.t 8) (.skip)
   (.exit 0)))
   (.seq (.block 1 (.seq (.seq (.rgn false [⟨some 11, .mov (.t 0), none, []⟩,
    ⟨some 12, .mov (.t 3), none, []⟩,
    ⟨some 13, .isl 4 (.t 11) (.t 12), none, []⟩,
    ⟨some 14, .fadr 1 (.t 13), none, []⟩,
    ⟨some 15, .load false 1 (.t 14), none, []⟩,
    ⟨some 16, .len false (.t 15), none, []⟩,
    ⟨some 17, .bin .gtr 0 (.t 16) (.c (.int .i64 (40))), none, []⟩,
    ⟨some 18, .mov (.t 17), none, []⟩,
    ⟨some 19, .mov (.t 0), some (18, false), []⟩,
    ⟨some 20, .mov (.t 3), some (18, false), []⟩,
    ⟨some 21, .isl 4 (.t 19) (.t 20), some (18, false), []⟩,
    ⟨some 22, .fadr 3 (.t 21), some (18, false), []⟩,
    ⟨some 23, .load false 1 (.t 22), some (18, false), []⟩,
    ⟨some 24, .len false (.t 23), some (18, false), []⟩,
    ⟨some 25, .bin .gtr 0 (.t 24) (.c (.int .i64 (40))), some (18, false), []⟩,
    ⟨some 26, .pick (.t 18) (.c (.bool true)) (.t 25), none, []⟩] [0, 3, 26])
   (.cond (.t 26) (.seq (.rgn false [⟨some 2, .mov (.c (.bool false)), none, []⟩] [2])
   (.ret))
   (.skip)))
   (.seq (.rgn false [⟨some 4, .mov (.c (.int .i64 (0))), none, []⟩] [0, 3, 4])
   (.block 2 (.loop [0, 3, 4] (.seq (.seq (.rgn false [⟨some 27, .mov (.t 4), none, []⟩,
    ⟨some 28, .mov (.t 0), none, []⟩,
    ⟨some 29, .mov (.t 3), none, []⟩,
    ⟨some 30, .isl 4 (.t 28) (.t 29), none, []⟩,
    ⟨some 31, .fadr 3 (.t 30), none, []⟩,
    ⟨some 32, .load false 1 (.t 31), none, []⟩,
    ⟨some 33, .len false (.t 32), none, []⟩,
    ⟨some 34, .bin .lss 0 (.t 27) (.t 33), none, []⟩] [0, 3, 4, 34])
   (.cond (.t 34) (.skip)
   (.exit 2)))
   (.seq (.block 3 (.seq (.rgn false [⟨some 37, .mov (.t 0), none, []⟩,
    ⟨some 38, .mov (.t 3), none, []⟩,
    ⟨some 39, .isl 4 (.t 37) (.t 38), none, []⟩,
    ⟨some 40, .fadr 3 (.t 39), none, []⟩,
    ⟨some 41, .load false 1 (.t 40), none, []⟩,
    ⟨some 42, .mov (.t 4), none, []⟩,
    ⟨some 43, .isl 1 (.t 41) (.t 42), none, []⟩,
    ⟨some 44, .load false 1 (.t 43), none, []⟩,
    ⟨some 45, .len true (.t 44), none, []⟩,
    ⟨some 46, .bin .gtr 0 (.t 45) (.c (.int .i64 (100))), none, []⟩] [0, 3, 4, 46])
   (.cond (.t 46) (.seq (.rgn false [⟨some 2, .mov (.c (.bool false)), none, []⟩] [2])
   (.ret))
   (.skip))))
   (.rgn false [⟨some 35, .mov (.t 4), none, []⟩,
    ⟨some 36, .bin .add 0 (.t 35) (.c (.int .i64 (1))), none, []⟩,
    ⟨some 4, .mov (.t 36), none, []⟩] [0, 3, 4]))))))))
   (.rgn false [⟨some 9, .mov (.t 3), none, []⟩,
    ⟨some 10, .bin .add 0 (.t 9) (.c (.int .i64 (1))), none, []⟩,
    ⟨some 3, .mov (.t 10), none, []⟩] [0, 3]))))))
   (.seq (.rgn false [⟨some 2, .mov (.c (.bool true)), none, []⟩] [2])
   (.ret))), none⟩
/-- slices.Clone[[]string,string] -/
def F54 : IFn := ⟨1, [.t 2],
   .skip, some (1, [.str ⟨#[]⟩])⟩
end Arb
