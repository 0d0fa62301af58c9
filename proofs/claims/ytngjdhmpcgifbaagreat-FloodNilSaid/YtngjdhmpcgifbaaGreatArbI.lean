/-
  THE FUNCTIONS OF THE PROGRAM FOR THE SECOND MACHINE: printed by gen2.py.
-/
import Derived.Test.YtngjdhmpcgifbaaGreatArbA
import Derived.Test.YtngjdhmpcgifbaaGreatArbB
import Derived.Test.YtngjdhmpcgifbaaGreatArbC
import Derived.Test.YtngjdhmpcgifbaaGreatArbD
import Derived.Test.YtngjdhmpcgifbaaGreatArbE
import Derived.Test.YtngjdhmpcgifbaaGreatArbF
import Derived.Test.YtngjdhmpcgifbaaGreatArbG
import Derived.Test.YtngjdhmpcgifbaaGreatArbH
namespace Arx
open Go Arb
/-- (*arbour/codec.Reader).Byte -/
def F247 : IFn := ⟨1, [.t 2],
   .seq (.rgn false [⟨some 2, .mov (.c (.iv (.int .u8 (0)))), none, []⟩] [0])
   (.seq (.seq (.rgn false [⟨some 4, .mov (.t 0), none, []⟩,
    ⟨some 5, .scall (.c (.iv (.fn 241 []))) [.t 4], none, []⟩,
    ⟨some 6, .bin .eql 0 (.t 5) (.c (.iv (.int .i64 (0)))), none, []⟩] [0, 6])
   (.cond (.t 6) (.seq (.rgn false [⟨some 7, .mov (.t 0), none, []⟩,
    ⟨some 8, .scall (.c (.iv (.fn 246 []))) [.t 7, .c (.iv (.int .i64 (3)))], none, []⟩] [])
   (.seq (.rgn false [⟨some 2, .mov (.c (.iv (.int .u8 (0)))), none, []⟩] [2])
   (.ret)))
   (.skip)))
   (.seq (.rgn false [⟨some 9, .mov (.t 0), none, []⟩,
    ⟨some 10, .nchk (.t 9), none, []⟩,
    ⟨some 11, .fadr 0 (.t 10), none, []⟩,
    ⟨some 12, .load false 1 (.t 11), none, []⟩,
    ⟨some 13, .xstr (.t 12) (.c (.iv (.int .i64 (0)))), none, []⟩,
    ⟨some 3, .mov (.t 13), none, []⟩] [0, 3])
   (.seq (.rgn false [⟨some 14, .mov (.t 0), none, []⟩,
    ⟨some 15, .mov (.t 0), none, []⟩,
    ⟨some 16, .nchk (.t 15), none, []⟩,
    ⟨some 17, .fadr 0 (.t 16), none, []⟩,
    ⟨some 18, .load false 1 (.t 17), none, []⟩,
    ⟨some 19, .slcs (.t 18) (some (.c (.iv (.int .i64 (1))))) none, none, []⟩,
    ⟨some 20, .nchk (.t 14), none, []⟩,
    ⟨some 21, .fadr 0 (.t 20), none, []⟩,
    ⟨none, .store 1 (.t 21) (.t 19), none, []⟩] [3])
   (.seq (.rgn false [⟨some 22, .mov (.t 3), none, []⟩,
    ⟨some 2, .mov (.t 22), none, []⟩] [2])
   (.ret))))), none⟩
/-- (*arbour/codec.Reader).Err -/
def F240 : IFn := ⟨1, [.t 2],
   .seq (.rgn false [⟨some 2, .mov (.c (.iv (.int .i64 (0)))), none, []⟩] [0])
   (.seq (.seq (.rgn false [⟨some 3, .mov (.t 0), none, []⟩,
    ⟨some 4, .bin .eql 2 (.t 3) (.c (.iv (.nilp))), none, []⟩] [0, 4])
   (.cond (.t 4) (.seq (.rgn false [⟨some 2, .mov (.c (.iv (.int .i64 (7)))), none, []⟩] [2])
   (.ret))
   (.skip)))
   (.seq (.rgn false [⟨some 5, .mov (.t 0), none, []⟩,
    ⟨some 6, .nchk (.t 5), none, []⟩,
    ⟨some 7, .fadr 1 (.t 6), none, []⟩,
    ⟨some 8, .load false 1 (.t 7), none, []⟩,
    ⟨some 2, .mov (.t 8), none, []⟩] [2])
   (.ret))), none⟩
/-- (*arbour/codec.Reader).Left -/
def F241 : IFn := ⟨1, [.t 2],
   .seq (.rgn false [⟨some 2, .mov (.c (.iv (.int .i64 (0)))), none, []⟩] [0])
   (.seq (.seq (.rgn false [⟨some 3, .mov (.t 0), none, []⟩,
    ⟨some 4, .bin .eql 2 (.t 3) (.c (.iv (.nilp))), none, []⟩] [0, 4])
   (.cond (.t 4) (.seq (.rgn false [⟨some 2, .mov (.c (.iv (.int .i64 (0)))), none, []⟩] [2])
   (.ret))
   (.skip)))
   (.seq (.rgn false [⟨some 5, .mov (.t 0), none, []⟩,
    ⟨some 6, .nchk (.t 5), none, []⟩,
    ⟨some 7, .fadr 0 (.t 6), none, []⟩,
    ⟨some 8, .load false 1 (.t 7), none, []⟩,
    ⟨some 9, .len true (.t 8), none, []⟩,
    ⟨some 2, .mov (.t 9), none, []⟩] [2])
   (.ret))), none⟩
/-- (*arbour/codec.Reader).Uint -/
def F249 : IFn := ⟨1, [.t 2],
   .seq (.rgn false [⟨some 2, .mov (.c (.iv (.int .u64 (0)))), none, []⟩] [0])
   (.seq (.rgn false [⟨some 3, .mov (.c (.iv (.int .u64 (0)))), none, []⟩] [0, 3])
   (.seq (.seq (.rgn false [⟨some 4, .mov (.c (.iv (.bool true))), none, []⟩] [0, 3, 4])
   (.block 0 (.loop [0, 3, 4] (.seq (.seq (.rgn false [⟨some 6, .mov (.t 0), none, []⟩,
    ⟨some 7, .scall (.c (.iv (.fn 240 []))) [.t 6], none, []⟩,
    ⟨some 8, .bin .eql 0 (.t 7) (.c (.iv (.int .i64 (0)))), none, []⟩] [0, 3, 4, 8])
   (.cond (.t 8) (.skip)
   (.exit 0)))
   (.seq (.block 1 (.seq (.rgn false [⟨some 9, .mov (.t 0), none, []⟩,
    ⟨some 10, .scall (.c (.iv (.fn 247 []))) [.t 9], none, []⟩,
    ⟨some 5, .mov (.t 10), none, []⟩] [0, 3, 4, 5])
   (.block 2 (.seq (.rgn false [⟨some 18, .mov (.t 0), none, []⟩,
    ⟨some 19, .scall (.c (.iv (.fn 240 []))) [.t 18], none, []⟩,
    ⟨some 20, .bin .neq 0 (.t 19) (.c (.iv (.int .i64 (0)))), none, []⟩,
    ⟨some 17, .mov (.t 20), none, []⟩] [0, 3, 4, 5, 17])
   (.cond (.t 17) (.skip)
   (.seq (.seq (.rgn false [⟨some 22, .mov (.t 4), none, []⟩,
    ⟨some 23, .mov (.t 22), none, []⟩,
    ⟨some 24, .mov (.t 5), some (23, true), []⟩,
    ⟨some 25, .bin .eql 0 (.t 24) (.c (.iv (.int .u8 (128)))), some (23, true), []⟩,
    ⟨some 26, .pick (.t 23) (.t 25) (.c (.iv (.bool false))), none, []⟩,
    ⟨some 21, .mov (.t 26), none, []⟩] [0, 3, 5, 21])
   (.cond (.t 21) (.skip)
   (.rgn false [⟨some 27, .mov (.t 3), none, []⟩,
    ⟨some 28, .bin .gtr 0 (.t 27) (.c (.iv (.int .u64 (144115188075855871)))), none, []⟩,
    ⟨some 21, .mov (.t 28), none, []⟩] [0, 3, 5, 21])))
   (.cond (.t 21) (.rgn false [⟨some 29, .mov (.t 0), none, []⟩,
    ⟨some 30, .scall (.c (.iv (.fn 246 []))) [.t 29, .c (.iv (.int .i64 (2)))], none, []⟩] [0, 3])
   (.seq (.rgn false [⟨some 32, .mov (.t 5), none, []⟩,
    ⟨some 33, .bin .lss 0 (.t 32) (.c (.iv (.int .u8 (128)))), none, []⟩,
    ⟨some 31, .mov (.t 33), none, []⟩] [0, 3, 5, 31])
   (.cond (.t 31) (.seq (.rgn false [⟨some 34, .mov (.t 3), none, []⟩,
    ⟨some 35, .bin .mul 0 (.t 34) (.c (.iv (.int .u64 (128)))), none, []⟩,
    ⟨some 36, .mov (.t 5), none, []⟩,
    ⟨some 37, .cvi .u64 (.t 36), none, []⟩,
    ⟨some 38, .bin .add 0 (.t 35) (.t 37), none, []⟩,
    ⟨some 2, .mov (.t 38), none, []⟩] [2])
   (.ret))
   (.rgn false [⟨some 11, .mov (.t 3), none, []⟩,
    ⟨some 12, .bin .mul 0 (.t 11) (.c (.iv (.int .u64 (128)))), none, []⟩,
    ⟨some 13, .mov (.t 5), none, []⟩,
    ⟨some 14, .bin .sub 0 (.t 13) (.c (.iv (.int .u8 (128)))), none, []⟩,
    ⟨some 15, .cvi .u64 (.t 14), none, []⟩,
    ⟨some 16, .bin .add 0 (.t 12) (.t 15), none, []⟩,
    ⟨some 3, .mov (.t 16), none, []⟩] [0, 3]))))))))))
   (.rgn false [⟨some 4, .mov (.c (.iv (.bool false))), none, []⟩] [0, 3, 4]))))))
   (.seq (.rgn false [⟨some 2, .mov (.c (.iv (.int .u64 (0)))), none, []⟩] [2])
   (.ret)))), none⟩
/-- (*arbour/flood.Flood).Deliveries -/
def F210 : IFn := ⟨1, [.t 2],
   .seq (.rgn false [⟨some 2, .mov (.c (.iv (.nsl 3))), none, []⟩] [0])
   (.seq (.seq (.rgn false [⟨some 3, .mov (.t 0), none, []⟩,
    ⟨some 4, .bin .eql 2 (.t 3) (.c (.iv (.nilp))), none, []⟩] [0, 4])
   (.cond (.t 4) (.seq (.rgn false [⟨some 2, .mov (.c (.iv (.nsl 3))), none, []⟩] [2])
   (.ret))
   (.skip)))
   (.seq (.rgn false [⟨some 5, .mov (.t 0), none, []⟩,
    ⟨some 6, .nchk (.t 5), none, []⟩,
    ⟨some 7, .fadr 8 (.t 6), none, []⟩,
    ⟨some 8, .load false 1 (.t 7), none, []⟩,
    ⟨some 9, .scall (.c (.iv (.fn 216 []))) [.t 8], none, []⟩,
    ⟨some 2, .mov (.t 9), none, []⟩] [2])
   (.ret))), none⟩
/-- (*arbour/flood.Flood).Do -/
def F214 : IFn := ⟨2, [.t 4, .t 5],
   .seq (.rgn false [⟨some 3, .box 0 (.t 1), none, []⟩,
    ⟨some 4, .mov (.c (.iv (.int .i64 (0)))), none, []⟩,
    ⟨some 5, .mov (.c (.iv (.int .i64 (0)))), none, []⟩] [0, 3])
   (.seq (.seq (.rgn false [⟨some 7, .mov (.t 0), none, []⟩,
    ⟨some 8, .bin .eql 2 (.t 7) (.c (.iv (.nilp))), none, []⟩] [0, 3, 8])
   (.cond (.t 8) (.seq (.rgn false [⟨some 4, .mov (.c (.iv (.int .i64 (0)))), none, []⟩,
    ⟨some 5, .mov (.c (.iv (.int .i64 (7)))), none, []⟩] [4, 5])
   (.ret))
   (.skip)))
   (.seq (.rgn false [⟨some 9, .mov (.t 0), none, []⟩,
    ⟨some 10, .nchk (.t 9), none, []⟩,
    ⟨some 11, .fadr 6 (.t 10), none, []⟩,
    ⟨some 12, .load false 1 (.t 11), none, []⟩,
    ⟨some 13, .bin .add 0 (.t 12) (.c (.iv (.int .i64 (1)))), none, []⟩,
    ⟨some 14, .nchk (.t 9), none, []⟩,
    ⟨some 15, .fadr 6 (.t 14), none, []⟩,
    ⟨none, .store 1 (.t 15) (.t 13), none, []⟩] [0, 3])
   (.seq (.rgn false [⟨some 16, .mmk, none, []⟩,
    ⟨some 17, .mov (.t 0), none, []⟩,
    ⟨some 18, .mkf 226 [.t 17] [], none, []⟩,
    ⟨none, .mput [0] (.t 16) (.c (.iv (.int .i64 (1)))) (.t 18), none, []⟩,
    ⟨some 19, .mov (.t 0), none, []⟩,
    ⟨some 20, .mkf 227 [.t 19] [], none, []⟩,
    ⟨none, .mput [0] (.t 16) (.c (.iv (.int .i64 (2)))) (.t 20), none, []⟩,
    ⟨some 21, .mov (.t 0), none, []⟩,
    ⟨some 22, .mkf 228 [.t 21] [], none, []⟩,
    ⟨none, .mput [0] (.t 16) (.c (.iv (.int .i64 (3)))) (.t 22), none, []⟩,
    ⟨some 23, .mov (.t 0), none, []⟩,
    ⟨some 24, .mkf 229 [.t 23] [], none, []⟩,
    ⟨none, .mput [0] (.t 16) (.c (.iv (.int .i64 (4)))) (.t 24), none, []⟩,
    ⟨some 25, .mov (.t 0), none, []⟩,
    ⟨some 26, .mkf 230 [.t 25] [], none, []⟩,
    ⟨none, .mput [0] (.t 16) (.c (.iv (.int .i64 (5)))) (.t 26), none, []⟩,
    ⟨some 27, .mov (.t 16), none, []⟩,
    ⟨some 28, .fadr 0 (.t 3), none, []⟩,
    ⟨some 29, .load false 1 (.t 28), none, []⟩,
    ⟨some 30, .mget false false [0] [.nul 0] (.t 27) (.t 29), none, []⟩,
    ⟨some 6, .mov (.t 30), none, []⟩] [3, 6])
   (.seq (.seq (.rgn false [⟨some 31, .mov (.t 6), none, []⟩,
    ⟨some 32, .bin .eql 3 (.t 31) (.c (.nul 0)), none, []⟩] [3, 6, 32])
   (.cond (.t 32) (.seq (.rgn false [⟨some 4, .mov (.c (.iv (.int .i64 (0)))), none, []⟩,
    ⟨some 5, .mov (.c (.iv (.int .i64 (1)))), none, []⟩] [4, 5])
   (.ret))
   (.skip)))
   (.seq (.rgn false [⟨some 33, .mov (.t 6), none, []⟩,
    ⟨some 34, .scall (.t 33) [.t 3], none, []⟩,
    ⟨some 35, .ext (.t 34) 0, none, []⟩,
    ⟨some 36, .ext (.t 34) 1, none, []⟩,
    ⟨some 4, .mov (.t 35), none, []⟩,
    ⟨some 5, .mov (.t 36), none, []⟩] [4, 5])
   (.ret)))))), none⟩
/-- (*arbour/flood.Flood).Got -/
def F211 : IFn := ⟨2, [.t 4],
   .seq (.rgn false [⟨some 4, .mov (.c (.iv (.nsl 1))), none, []⟩] [0, 1])
   (.seq (.rgn false [⟨some 5, .mov (.t 0), none, []⟩,
    ⟨some 6, .mov (.t 1), none, []⟩,
    ⟨some 7, .scall (.c (.iv (.fn 223 []))) [.t 5, .t 6], none, []⟩,
    ⟨some 8, .scall (.c (.iv (.fn 224 []))) [.t 7], none, []⟩,
    ⟨some 4, .mov (.t 8), none, []⟩] [4])
   (.ret)), none⟩
/-- (*arbour/flood.Flood).Sent -/
def F213 : IFn := ⟨1, [.t 2],
   .seq (.rgn false [⟨some 2, .mov (.c (.iv (.int .i64 (0)))), none, []⟩] [0])
   (.seq (.seq (.rgn false [⟨some 5, .mov (.t 0), none, []⟩,
    ⟨some 6, .bin .eql 2 (.t 5) (.c (.iv (.nilp))), none, []⟩] [0, 6])
   (.cond (.t 6) (.seq (.rgn false [⟨some 2, .mov (.c (.iv (.int .i64 (0)))), none, []⟩] [2])
   (.ret))
   (.skip)))
   (.seq (.rgn false [⟨some 8, .mov (.t 0), none, []⟩,
    ⟨some 9, .nchk (.t 8), none, []⟩,
    ⟨some 10, .fadr 5 (.t 9), none, []⟩,
    ⟨some 11, .load false 1 (.t 10), none, []⟩,
    ⟨some 12, .scall (.c (.iv (.fn 217 []))) [.t 11], none, []⟩,
    ⟨some 7, .mov (.t 12), none, []⟩,
    ⟨some 13, .ext (.t 7) 0, none, []⟩,
    ⟨some 14, .ext (.t 7) 1, none, []⟩,
    ⟨some 3, .mov (.t 13), none, []⟩,
    ⟨some 4, .mov (.t 14), none, []⟩] [3])
   (.seq (.rgn false [⟨some 15, .mov (.t 3), none, []⟩,
    ⟨some 2, .mov (.t 15), none, []⟩] [2])
   (.ret)))), none⟩
/-- (*arbour/flood.Flood).Waiting -/
def F212 : IFn := ⟨1, [.t 2],
   .seq (.rgn false [⟨some 2, .mov (.c (.iv (.int .i64 (0)))), none, []⟩] [0])
   (.seq (.seq (.rgn false [⟨some 3, .mov (.t 0), none, []⟩,
    ⟨some 4, .bin .eql 2 (.t 3) (.c (.iv (.nilp))), none, []⟩] [0, 4])
   (.cond (.t 4) (.seq (.rgn false [⟨some 2, .mov (.c (.iv (.int .i64 (0)))), none, []⟩] [2])
   (.ret))
   (.skip)))
   (.seq (.rgn false [⟨some 5, .mov (.t 0), none, []⟩,
    ⟨some 6, .nchk (.t 5), none, []⟩,
    ⟨some 7, .fadr 5 (.t 6), none, []⟩,
    ⟨some 8, .load false 1 (.t 7), none, []⟩,
    ⟨some 9, .scall (.c (.iv (.fn 219 []))) [.t 8], none, []⟩,
    ⟨some 2, .mov (.t 9), none, []⟩] [2])
   (.ret))), none⟩
/-- (*arbour/flood.Flood).come -/
def F236 : IFn := ⟨3, [.t 6],
   .seq (.rgn false [⟨some 6, .mov (.c (.iv (.int .i64 (0)))), none, []⟩] [0, 1, 2])
   (.seq (.rgn false [⟨some 10, .mov (.t 0), none, []⟩,
    ⟨some 11, .nchk (.t 10), none, []⟩,
    ⟨some 12, .fadr 5 (.t 11), none, []⟩,
    ⟨some 13, .load false 1 (.t 12), none, []⟩,
    ⟨some 14, .mov (.t 1), none, []⟩,
    ⟨some 15, .mov (.t 2), none, []⟩,
    ⟨some 16, .scall (.c (.iv (.fn 238 []))) [.t 13, .t 14, .t 15], none, []⟩,
    ⟨some 9, .mov (.t 16), none, []⟩,
    ⟨some 17, .ext (.t 9) 0, none, []⟩,
    ⟨some 18, .ext (.t 9) 1, none, []⟩,
    ⟨some 7, .alloc 0 [.iv (.bool false), .iv (.nsl 3), .iv (.nsl 1), .iv (.int .i64 0), .iv (.int .i64 0), .iv (.int .i64 0), .iv (.int .i64 0), .iv (.str ⟨#[]⟩), .iv (.int .i64 0), .iv (.int .i64 0), .iv (.str ⟨#[]⟩), .iv (.int .i64 0), .iv (.int .i64 0), .iv (.str ⟨#[]⟩), .iv (.int .i64 0), .iv (.int .i64 0), .iv (.str ⟨#[]⟩)], none, []⟩,
    ⟨none, .store 17 (.t 7) (.t 17), none, []⟩,
    ⟨some 8, .mov (.t 18), none, []⟩] [0, 1, 2, 7, 8])
   (.seq (.seq (.rgn false [⟨some 19, .mov (.t 8), none, []⟩,
    ⟨some 20, .bin .eql 0 (.t 19) (.c (.iv (.int .i64 (0)))), none, []⟩] [0, 1, 2, 7, 8, 20])
   (.cond (.t 20) (.rgn false [⟨some 21, .mov (.t 0), none, []⟩,
    ⟨some 22, .mov (.t 2), none, []⟩,
    ⟨some 23, .mov (.t 1), none, []⟩,
    ⟨some 24, .fadr 3 (.t 7), none, []⟩,
    ⟨some 25, .load true 14 (.t 24), none, []⟩,
    ⟨some 26, .scall (.c (.iv (.fn 237 []))) [.t 21, .t 22, .t 23, .t 25], none, []⟩] [8])
   (.skip)))
   (.seq (.rgn false [⟨some 27, .mov (.t 8), none, []⟩,
    ⟨some 6, .mov (.t 27), none, []⟩] [6])
   (.ret)))), none⟩
/-- (*arbour/flood.Flood).drain -/
def F230 : IFn := ⟨2, [.t 4, .t 5],
   .seq (.rgn false [⟨some 4, .mov (.c (.iv (.int .i64 (0)))), none, []⟩,
    ⟨some 5, .mov (.c (.iv (.int .i64 (0)))), none, []⟩] [0, 4])
   (.seq (.seq (.rgn false [⟨some 10, .mov (.t 0), none, []⟩,
    ⟨some 11, .nchk (.t 10), none, []⟩,
    ⟨some 12, .fadr 5 (.t 11), none, []⟩,
    ⟨some 13, .load false 1 (.t 12), none, []⟩,
    ⟨some 14, .scall (.c (.iv (.fn 235 []))) [.t 13], none, []⟩,
    ⟨some 9, .mov (.t 14), none, []⟩,
    ⟨some 15, .ext (.t 9) 0, none, []⟩,
    ⟨some 16, .ext (.t 9) 1, none, []⟩,
    ⟨some 17, .ext (.t 9) 2, none, []⟩,
    ⟨some 6, .mov (.t 15), none, []⟩,
    ⟨some 7, .mov (.t 16), none, []⟩,
    ⟨some 8, .mov (.t 17), none, []⟩] [0, 4, 6, 7, 8])
   (.block 0 (.loop [0, 4, 6, 7, 8] (.seq (.seq (.rgn false [⟨some 18, .mov (.t 8), none, []⟩] [0, 4, 6, 7, 18])
   (.cond (.t 18) (.skip)
   (.exit 0)))
   (.seq (.block 1 (.seq (.rgn false [⟨some 28, .mov (.t 0), none, []⟩,
    ⟨some 29, .mov (.t 6), none, []⟩,
    ⟨some 30, .mov (.t 7), none, []⟩,
    ⟨some 31, .scall (.c (.iv (.fn 236 []))) [.t 28, .t 29, .t 30], none, []⟩] [0, 4])
   (.rgn false [⟨some 32, .mov (.t 4), none, []⟩,
    ⟨some 33, .bin .add 0 (.t 32) (.c (.iv (.int .i64 (1)))), none, []⟩,
    ⟨some 4, .mov (.t 33), none, []⟩] [0, 4])))
   (.rgn false [⟨some 20, .mov (.t 0), none, []⟩,
    ⟨some 21, .nchk (.t 20), none, []⟩,
    ⟨some 22, .fadr 5 (.t 21), none, []⟩,
    ⟨some 23, .load false 1 (.t 22), none, []⟩,
    ⟨some 24, .scall (.c (.iv (.fn 235 []))) [.t 23], none, []⟩,
    ⟨some 19, .mov (.t 24), none, []⟩,
    ⟨some 25, .ext (.t 19) 0, none, []⟩,
    ⟨some 26, .ext (.t 19) 1, none, []⟩,
    ⟨some 27, .ext (.t 19) 2, none, []⟩,
    ⟨some 6, .mov (.t 25), none, []⟩,
    ⟨some 7, .mov (.t 26), none, []⟩,
    ⟨some 8, .mov (.t 27), none, []⟩] [0, 4, 6, 7, 8]))))))
   (.seq (.rgn false [⟨some 34, .mov (.t 4), none, []⟩,
    ⟨some 4, .mov (.t 34), none, []⟩,
    ⟨some 5, .mov (.c (.iv (.int .i64 (0)))), none, []⟩] [4, 5])
   (.ret))), none⟩
/-- (*arbour/flood.Flood).pass -/
def F237 : IFn := ⟨4, [],
   .seq (.rgn false [⟨some 7, .box 0 (.t 3), none, []⟩] [0, 1, 2, 7])
   (.seq (.seq (.rgn false [⟨some 12, .mov (.t 0), none, []⟩,
    ⟨some 13, .nchk (.t 12), none, []⟩,
    ⟨some 14, .fadr 0 (.t 13), none, []⟩,
    ⟨some 15, .fadr 1 (.t 14), none, []⟩,
    ⟨some 16, .load false 1 (.t 15), none, []⟩,
    ⟨some 17, .len false (.t 16), none, []⟩,
    ⟨some 18, .mov (.c (.iv (.int .i64 (0)))), none, []⟩] [0, 1, 2, 7, 16, 17, 18])
   (.block 0 (.loop [0, 1, 2, 7, 16, 17, 18] (.seq (.rgn false [⟨some 19, .bin .lss 0 (.t 18) (.t 17), none, []⟩] [0, 1, 2, 7, 16, 17, 18, 19])
   (.seq (.cond (.t 19) (.skip)
   (.exit 0))
   (.seq (.block 1 (.seq (.rgn false [⟨some 20, .mov (.t 18), none, []⟩,
    ⟨some 21, .isl 1 (.t 16) (.t 18), none, []⟩,
    ⟨some 22, .load false 1 (.t 21), none, []⟩,
    ⟨some 8, .mov (.t 20), none, []⟩,
    ⟨some 9, .mov (.t 22), none, []⟩] [0, 1, 2, 7, 8, 9, 16, 17, 18])
   (.seq (.rgn true [⟨some 23, .mov (.t 9), none, []⟩,
    ⟨some 24, .mov (.t 1), none, []⟩,
    ⟨some 25, .bin .eql 0 (.t 23) (.t 24), none, [0, 1]⟩,
    ⟨some 26, .mov (.t 25), none, [0, 1, 2]⟩,
    ⟨some 27, .mov (.t 0), some (26, true), [0, 1, 2, 3]⟩,
    ⟨some 28, .nchk (.t 27), some (26, true), [0, 1, 2, 3, 4]⟩,
    ⟨some 29, .fadr 4 (.t 28), some (26, true), [0, 1, 2, 3, 4, 5]⟩,
    ⟨some 30, .load false 1 (.t 29), some (26, true), [0, 1, 2, 3, 4, 5, 6]⟩,
    ⟨some 31, .mov (.t 8), some (26, true), [0, 1, 2, 3]⟩,
    ⟨some 32, .isl 1 (.t 30) (.t 31), some (26, true), [0, 1, 2, 3, 4, 5, 6, 7, 8]⟩,
    ⟨some 33, .load false 1 (.t 32), some (26, true), [0, 1, 2, 3, 4, 5, 6, 7, 8, 9]⟩,
    ⟨some 34, .load true 14 (.t 7), some (26, true), [0, 1, 2, 3]⟩,
    ⟨some 35, .scall (.c (.iv (.fn 258 []))) [.t 33, .t 34], some (26, true), [0, 1, 2, 3, 4, 5, 6, 7, 8, 9, 10, 11]⟩,
    ⟨some 36, .pick (.t 26) (.t 35) (.c (.iv (.bool false))), none, [0, 1, 2, 3, 4, 5, 6, 7, 8, 9, 10, 11, 12]⟩] [0, 1, 2, 7, 8, 16, 17, 18, 36])
   (.cond (.t 36) (.rgn true [⟨some 37, .mov (.t 0), none, []⟩,
    ⟨some 38, .mov (.t 0), none, []⟩,
    ⟨some 39, .nchk (.t 38), none, [1]⟩,
    ⟨some 40, .fadr 8 (.t 39), none, [1, 2]⟩,
    ⟨some 41, .load false 1 (.t 40), none, [1, 2, 3]⟩,
    ⟨some 42, .mov (.t 8), none, []⟩,
    ⟨some 43, .fadr 0 (.t 7), none, []⟩,
    ⟨some 44, .load false 1 (.t 43), none, [6]⟩,
    ⟨some 45, .mov (.t 0), none, []⟩,
    ⟨some 46, .nchk (.t 45), none, [8]⟩,
    ⟨some 47, .fadr 6 (.t 46), none, [8, 9]⟩,
    ⟨some 48, .load false 1 (.t 47), none, [8, 9, 10]⟩,
    ⟨some 49, .build [.iv (.int .i64 0), .iv (.int .i64 0), .iv (.int .i64 0)] [(0, 1, .t 42), (1, 1, .t 44), (2, 1, .t 48)], none, [5, 6, 7, 8, 9, 10, 11]⟩,
    ⟨some 50, .bsl 3 [.iv (.int .i64 0), .iv (.int .i64 0), .iv (.int .i64 0)] 1 [(0, .t 49)], none, [5, 6, 7, 8, 9, 10, 11, 12]⟩,
    ⟨some 51, .app 3 false (.t 41) (.t 50), none, [1, 2, 3, 4, 5, 6, 7, 8, 9, 10, 11, 12, 13]⟩,
    ⟨some 52, .nchk (.t 37), none, [0, 1, 2, 3, 4, 5, 6, 7, 8, 9, 10, 11, 12, 13, 14]⟩,
    ⟨some 53, .fadr 8 (.t 52), none, [0, 1, 2, 3, 4, 5, 6, 7, 8, 9, 10, 11, 12, 13, 14, 15]⟩,
    ⟨none, .store 1 (.t 53) (.t 51), none, [0, 1, 2, 3, 4, 5, 6, 7, 8, 9, 10, 11, 12, 13, 14, 15, 16]⟩] [0, 1, 2, 7, 16, 17, 18])
   (.skip)))))
   (.rgn false [⟨some 54, .bin .add 0 (.t 18) (.c (.iv (.int .i64 (1)))), none, []⟩,
    ⟨some 18, .mov (.t 54), none, []⟩] [0, 1, 2, 7, 16, 17, 18])))))))
   (.seq (.rgn false [⟨some 55, .mov (.t 0), none, []⟩,
    ⟨some 56, .nchk (.t 55), none, []⟩,
    ⟨some 57, .fadr 0 (.t 56), none, []⟩,
    ⟨some 58, .load true 4 (.t 57), none, []⟩,
    ⟨some 59, .mov (.t 1), none, []⟩,
    ⟨some 60, .call 3 (.c (.iv (.fn 133 []))) [.t 58, .t 59], none, []⟩,
    ⟨some 61, .len false (.t 60), none, []⟩,
    ⟨some 62, .mov (.c (.iv (.int .i64 (0)))), none, []⟩] [0, 1, 2, 7, 60, 61, 62])
   (.block 2 (.loop [0, 1, 2, 7, 60, 61, 62] (.seq (.rgn false [⟨some 63, .bin .lss 0 (.t 62) (.t 61), none, []⟩] [0, 1, 2, 7, 60, 61, 62, 63])
   (.seq (.cond (.t 63) (.skip)
   (.exit 2))
   (.seq (.block 3 (.seq (.rgn false [⟨some 64, .isl 1 (.t 60) (.t 62), none, []⟩,
    ⟨some 65, .load false 1 (.t 64), none, []⟩,
    ⟨some 11, .mov (.t 65), none, []⟩] [0, 1, 2, 7, 11, 60, 61, 62])
   (.seq (.rgn false [⟨some 66, .mov (.t 11), none, []⟩,
    ⟨some 67, .mov (.t 2), none, []⟩,
    ⟨some 68, .bin .neq 0 (.t 66) (.t 67), none, []⟩] [0, 1, 2, 7, 11, 60, 61, 62, 68])
   (.cond (.t 68) (.rgn true [⟨some 69, .mov (.t 0), none, []⟩,
    ⟨some 70, .nchk (.t 69), none, [0]⟩,
    ⟨some 71, .fadr 5 (.t 70), none, [0, 1]⟩,
    ⟨some 72, .load false 1 (.t 71), none, [0, 1, 2]⟩,
    ⟨some 73, .mov (.t 1), none, []⟩,
    ⟨some 74, .mov (.t 11), none, []⟩,
    ⟨some 75, .load true 14 (.t 7), none, []⟩,
    ⟨some 76, .build [.iv (.bool false), .iv (.nsl 3), .iv (.nsl 1), .iv (.int .i64 0), .iv (.int .i64 0), .iv (.int .i64 0), .iv (.int .i64 0), .iv (.str ⟨#[]⟩), .iv (.int .i64 0), .iv (.int .i64 0), .iv (.str ⟨#[]⟩), .iv (.int .i64 0), .iv (.int .i64 0), .iv (.str ⟨#[]⟩), .iv (.int .i64 0), .iv (.int .i64 0), .iv (.str ⟨#[]⟩)] [(0, 1, .c (.iv (.bool true))), (3, 14, .t 75)], none, [6]⟩,
    ⟨some 77, .scall (.c (.iv (.fn 257 []))) [.t 72, .t 73, .t 74, .t 76], none, [0, 1, 2, 3, 4, 5, 6, 7]⟩] [0, 1, 2, 7, 60, 61, 62])
   (.skip)))))
   (.rgn false [⟨some 78, .bin .add 0 (.t 62) (.c (.iv (.int .i64 (1)))), none, []⟩,
    ⟨some 62, .mov (.t 78), none, []⟩] [0, 1, 2, 7, 60, 61, 62])))))))), none⟩
/-- (*arbour/flood.Flood).publish -/
def F228 : IFn := ⟨2, [.t 4, .t 5],
   .seq (.rgn false [⟨some 4, .mov (.c (.iv (.int .i64 (0)))), none, []⟩,
    ⟨some 5, .mov (.c (.iv (.int .i64 (0)))), none, []⟩] [0, 1])
   (.seq (.block 0 (.seq (.rgn false [⟨some 7, .mov (.t 0), none, []⟩,
    ⟨some 8, .mov (.t 1), none, []⟩,
    ⟨some 9, .nchk (.t 8), none, []⟩,
    ⟨some 10, .fadr 1 (.t 9), none, []⟩,
    ⟨some 11, .load false 1 (.t 10), none, []⟩,
    ⟨some 12, .scall (.c (.iv (.fn 223 []))) [.t 7, .t 11], none, []⟩,
    ⟨some 13, .bin .eql 2 (.t 12) (.c (.iv (.nilp))), none, []⟩,
    ⟨some 6, .mov (.t 13), none, []⟩] [0, 1, 6])
   (.cond (.t 6) (.seq (.rgn false [⟨some 4, .mov (.c (.iv (.int .i64 (0)))), none, []⟩,
    ⟨some 5, .mov (.c (.iv (.int .i64 (5)))), none, []⟩] [4, 5])
   (.ret))
   (.seq (.rgn false [⟨some 15, .mov (.t 1), none, []⟩,
    ⟨some 16, .nchk (.t 15), none, []⟩,
    ⟨some 17, .fadr 12 (.t 16), none, []⟩,
    ⟨some 18, .load true 12 (.t 17), none, []⟩,
    ⟨some 19, .call 0 (.c (.iv (.fn 137 []))) [.t 18], none, []⟩,
    ⟨some 20, .un .not (.t 19), none, []⟩,
    ⟨some 14, .mov (.t 20), none, []⟩] [0, 1, 14])
   (.cond (.t 14) (.seq (.rgn false [⟨some 4, .mov (.c (.iv (.int .i64 (0)))), none, []⟩,
    ⟨some 5, .mov (.c (.iv (.int .i64 (1)))), none, []⟩] [4, 5])
   (.ret))
   (.skip))))))
   (.seq (.rgn false [⟨some 21, .mov (.t 0), none, []⟩,
    ⟨some 22, .nchk (.t 21), none, []⟩,
    ⟨some 23, .fadr 7 (.t 22), none, []⟩,
    ⟨some 24, .load false 1 (.t 23), none, []⟩,
    ⟨some 25, .bin .add 0 (.t 24) (.c (.iv (.int .i64 (1)))), none, []⟩,
    ⟨some 26, .nchk (.t 21), none, []⟩,
    ⟨some 27, .fadr 7 (.t 26), none, []⟩,
    ⟨none, .store 1 (.t 27) (.t 25), none, []⟩] [0, 1])
   (.seq (.rgn true [⟨some 28, .mov (.t 0), none, []⟩,
    ⟨some 29, .mov (.t 0), none, []⟩,
    ⟨some 30, .nchk (.t 29), none, [1]⟩,
    ⟨some 31, .fadr 0 (.t 30), none, [1, 2]⟩,
    ⟨some 32, .fadr 1 (.t 31), none, [1, 2, 3]⟩,
    ⟨some 33, .load false 1 (.t 32), none, [1, 2, 3, 4]⟩,
    ⟨some 34, .mov (.t 1), none, []⟩,
    ⟨some 35, .nchk (.t 34), none, [6]⟩,
    ⟨some 36, .fadr 1 (.t 35), none, [6, 7]⟩,
    ⟨some 37, .load false 1 (.t 36), none, [6, 7, 8]⟩,
    ⟨some 38, .isl 1 (.t 33) (.t 37), none, [1, 2, 3, 4, 5, 6, 7, 8, 9]⟩,
    ⟨some 39, .load false 1 (.t 38), none, [1, 2, 3, 4, 5, 6, 7, 8, 9, 10]⟩,
    ⟨some 40, .mov (.t 0), none, []⟩,
    ⟨some 41, .nchk (.t 40), none, [12]⟩,
    ⟨some 42, .fadr 7 (.t 41), none, [12, 13]⟩,
    ⟨some 43, .load false 1 (.t 42), none, [12, 13, 14]⟩,
    ⟨some 44, .mov (.t 1), none, []⟩,
    ⟨some 45, .nchk (.t 44), none, [16]⟩,
    ⟨some 46, .fadr 1 (.t 45), none, [16, 17]⟩,
    ⟨some 47, .load false 1 (.t 46), none, [16, 17, 18]⟩,
    ⟨some 48, .mov (.t 1), none, []⟩,
    ⟨some 49, .nchk (.t 48), none, [20]⟩,
    ⟨some 50, .fadr 12 (.t 49), none, [20, 21]⟩,
    ⟨some 51, .load true 12 (.t 50), none, [20, 21, 22]⟩,
    ⟨some 52, .build [.iv (.int .i64 0), .iv (.int .i64 0), .iv (.int .i64 0), .iv (.int .i64 0), .iv (.str ⟨#[]⟩), .iv (.int .i64 0), .iv (.int .i64 0), .iv (.str ⟨#[]⟩), .iv (.int .i64 0), .iv (.int .i64 0), .iv (.str ⟨#[]⟩), .iv (.int .i64 0), .iv (.int .i64 0), .iv (.str ⟨#[]⟩)] [(0, 1, .t 43), (1, 1, .t 47), (2, 12, .t 51)], none, [12, 13, 14, 15, 16, 17, 18, 19, 20, 21, 22, 23]⟩,
    ⟨some 53, .scall (.c (.iv (.fn 237 []))) [.t 28, .t 39, .c (.iv (.int .i64 (-1))), .t 52], none, [0, 1, 2, 3, 4, 5, 6, 7, 8, 9, 10, 11, 12, 13, 14, 15, 16, 17, 18, 19, 20, 21, 22, 23, 24]⟩] [0])
   (.seq (.rgn false [⟨some 54, .mov (.t 0), none, []⟩,
    ⟨some 55, .nchk (.t 54), none, []⟩,
    ⟨some 56, .fadr 7 (.t 55), none, []⟩,
    ⟨some 57, .load false 1 (.t 56), none, []⟩,
    ⟨some 4, .mov (.t 57), none, []⟩,
    ⟨some 5, .mov (.c (.iv (.int .i64 (0)))), none, []⟩] [4, 5])
   (.ret))))), none⟩
/-- (*arbour/flood.Flood).session -/
def F223 : IFn := ⟨2, [.t 4],
   .seq (.rgn false [⟨some 4, .mov (.c (.iv (.nilp))), none, []⟩] [0, 1])
   (.seq (.seq (.rgn false [⟨some 5, .mov (.t 0), none, []⟩,
    ⟨some 6, .bin .eql 2 (.t 5) (.c (.iv (.nilp))), none, []⟩,
    ⟨some 7, .mov (.t 6), none, []⟩,
    ⟨some 8, .mov (.t 1), some (7, false), []⟩,
    ⟨some 9, .bin .lss 0 (.t 8) (.c (.iv (.int .i64 (0)))), some (7, false), []⟩,
    ⟨some 10, .pick (.t 7) (.c (.iv (.bool true))) (.t 9), none, []⟩,
    ⟨some 11, .mov (.t 10), none, []⟩,
    ⟨some 12, .mov (.t 1), some (11, false), []⟩,
    ⟨some 13, .mov (.t 0), some (11, false), []⟩,
    ⟨some 14, .nchk (.t 13), some (11, false), []⟩,
    ⟨some 15, .fadr 4 (.t 14), some (11, false), []⟩,
    ⟨some 16, .load false 1 (.t 15), some (11, false), []⟩,
    ⟨some 17, .len false (.t 16), some (11, false), []⟩,
    ⟨some 18, .bin .geq 0 (.t 12) (.t 17), some (11, false), []⟩,
    ⟨some 19, .pick (.t 11) (.c (.iv (.bool true))) (.t 18), none, []⟩] [0, 1, 19])
   (.cond (.t 19) (.seq (.rgn false [⟨some 4, .mov (.c (.iv (.nilp))), none, []⟩] [4])
   (.ret))
   (.skip)))
   (.seq (.rgn false [⟨some 20, .mov (.t 0), none, []⟩,
    ⟨some 21, .nchk (.t 20), none, []⟩,
    ⟨some 22, .fadr 4 (.t 21), none, []⟩,
    ⟨some 23, .load false 1 (.t 22), none, []⟩,
    ⟨some 24, .mov (.t 1), none, []⟩,
    ⟨some 25, .isl 1 (.t 23) (.t 24), none, []⟩,
    ⟨some 26, .load false 1 (.t 25), none, []⟩,
    ⟨some 4, .mov (.t 26), none, []⟩] [4])
   (.ret))), none⟩
/-- (*arbour/link.Net).Next -/
def F235 : IFn := ⟨1, [.t 2, .t 3, .t 4],
   .seq (.rgn false [⟨some 2, .mov (.c (.iv (.int .i64 (0)))), none, []⟩,
    ⟨some 3, .mov (.c (.iv (.int .i64 (0)))), none, []⟩,
    ⟨some 4, .mov (.c (.iv (.bool false))), none, []⟩] [0])
   (.seq (.seq (.rgn false [⟨some 7, .mov (.t 0), none, []⟩,
    ⟨some 8, .bin .eql 2 (.t 7) (.c (.iv (.nilp))), none, []⟩] [0, 8])
   (.cond (.t 8) (.seq (.rgn false [⟨some 2, .mov (.c (.iv (.int .i64 (0)))), none, []⟩,
    ⟨some 3, .mov (.c (.iv (.int .i64 (0)))), none, []⟩,
    ⟨some 4, .mov (.c (.iv (.bool false))), none, []⟩] [2, 3, 4])
   (.ret))
   (.skip)))
   (.seq (.seq (.rgn false [⟨some 9, .mov (.t 0), none, []⟩,
    ⟨some 10, .nchk (.t 9), none, []⟩,
    ⟨some 11, .fadr 0 (.t 10), none, []⟩,
    ⟨some 12, .load false 1 (.t 11), none, []⟩,
    ⟨some 13, .len false (.t 12), none, []⟩,
    ⟨some 14, .mov (.c (.iv (.int .i64 (0)))), none, []⟩] [0, 12, 13, 14])
   (.block 0 (.loop [0, 12, 13, 14] (.seq (.rgn false [⟨some 15, .bin .lss 0 (.t 14) (.t 13), none, []⟩] [0, 12, 13, 14, 15])
   (.seq (.cond (.t 15) (.skip)
   (.exit 0))
   (.seq (.block 1 (.seq (.rgn false [⟨some 16, .isl 2 (.t 12) (.t 14), none, []⟩,
    ⟨some 17, .load true 2 (.t 16), none, []⟩,
    ⟨some 6, .alloc 0 [.iv (.int .i64 0), .iv (.int .i64 0)], none, []⟩,
    ⟨none, .store 2 (.t 6) (.t 17), none, []⟩] [0, 6, 12, 13, 14])
   (.seq (.rgn true [⟨some 18, .mov (.t 0), none, []⟩,
    ⟨some 19, .nchk (.t 18), none, [0]⟩,
    ⟨some 20, .fadr 1 (.t 19), none, [0, 1]⟩,
    ⟨some 21, .load false 1 (.t 20), none, [0, 1, 2]⟩,
    ⟨some 22, .load true 2 (.t 6), none, []⟩,
    ⟨some 23, .mget false false [0, 0] [.iv (.nsl 1)] (.t 21) (.t 22), none, [0, 1, 2, 3, 4]⟩,
    ⟨some 24, .len false (.t 23), none, [0, 1, 2, 3, 4, 5]⟩,
    ⟨some 25, .bin .gtr 0 (.t 24) (.c (.iv (.int .i64 (0)))), none, [0, 1, 2, 3, 4, 5, 6]⟩] [0, 6, 12, 13, 14, 25])
   (.cond (.t 25) (.seq (.rgn true [⟨some 26, .iarr 2 1 (.t 6) (.c (.iv (.int .i64 (0)))), none, []⟩,
    ⟨some 27, .load false 1 (.t 26), none, [0]⟩,
    ⟨some 28, .iarr 2 1 (.t 6) (.c (.iv (.int .i64 (1)))), none, []⟩,
    ⟨some 29, .load false 1 (.t 28), none, [2]⟩,
    ⟨some 2, .mov (.t 27), none, [0, 1]⟩,
    ⟨some 3, .mov (.t 29), none, [0, 1, 2, 3, 4]⟩,
    ⟨some 4, .mov (.c (.iv (.bool true))), none, [0, 1, 2, 3, 4, 5]⟩] [2, 3, 4])
   (.ret))
   (.skip)))))
   (.rgn false [⟨some 30, .bin .add 0 (.t 14) (.c (.iv (.int .i64 (1)))), none, []⟩,
    ⟨some 14, .mov (.t 30), none, []⟩] [0, 12, 13, 14])))))))
   (.seq (.rgn false [⟨some 2, .mov (.c (.iv (.int .i64 (0)))), none, []⟩,
    ⟨some 3, .mov (.c (.iv (.int .i64 (0)))), none, []⟩,
    ⟨some 4, .mov (.c (.iv (.bool false))), none, []⟩] [2, 3, 4])
   (.ret)))), none⟩
/-- (*arbour/link.Net).Pop -/
def F238 : IFn := ⟨3, [.cell 6 true 17, .t 7],
   .seq (.rgn false [⟨some 6, .alloc 0 [.iv (.bool false), .iv (.nsl 3), .iv (.nsl 1), .iv (.int .i64 0), .iv (.int .i64 0), .iv (.int .i64 0), .iv (.int .i64 0), .iv (.str ⟨#[]⟩), .iv (.int .i64 0), .iv (.int .i64 0), .iv (.str ⟨#[]⟩), .iv (.int .i64 0), .iv (.int .i64 0), .iv (.str ⟨#[]⟩), .iv (.int .i64 0), .iv (.int .i64 0), .iv (.str ⟨#[]⟩)], none, []⟩,
    ⟨some 7, .mov (.c (.iv (.int .i64 (0)))), none, []⟩] [0, 1, 2, 6])
   (.seq (.seq (.rgn false [⟨some 11, .mov (.t 0), none, []⟩,
    ⟨some 12, .bin .eql 2 (.t 11) (.c (.iv (.nilp))), none, []⟩] [0, 1, 2, 6, 12])
   (.cond (.t 12) (.seq (.rgn false [⟨some 13, .build [.iv (.bool false), .iv (.nsl 3), .iv (.nsl 1), .iv (.int .i64 0), .iv (.int .i64 0), .iv (.int .i64 0), .iv (.int .i64 0), .iv (.str ⟨#[]⟩), .iv (.int .i64 0), .iv (.int .i64 0), .iv (.str ⟨#[]⟩), .iv (.int .i64 0), .iv (.int .i64 0), .iv (.str ⟨#[]⟩), .iv (.int .i64 0), .iv (.int .i64 0), .iv (.str ⟨#[]⟩)] [], none, []⟩,
    ⟨none, .store 17 (.t 6) (.t 13), none, []⟩,
    ⟨some 7, .mov (.c (.iv (.int .i64 (7)))), none, []⟩] [6, 7])
   (.ret))
   (.skip)))
   (.seq (.rgn false [⟨some 14, .mov (.t 1), none, []⟩,
    ⟨some 15, .mov (.t 2), none, []⟩,
    ⟨some 16, .build [.iv (.int .i64 0), .iv (.int .i64 0)] [(0, 1, .t 14), (1, 1, .t 15)], none, []⟩,
    ⟨some 8, .alloc 0 [.iv (.int .i64 0), .iv (.int .i64 0)], none, []⟩,
    ⟨none, .store 2 (.t 8) (.t 16), none, []⟩] [0, 6, 8])
   (.seq (.rgn true [⟨some 18, .mov (.t 0), none, []⟩,
    ⟨some 19, .nchk (.t 18), none, [0]⟩,
    ⟨some 20, .fadr 1 (.t 19), none, [0, 1]⟩,
    ⟨some 21, .load false 1 (.t 20), none, [0, 1, 2]⟩,
    ⟨some 22, .load true 2 (.t 8), none, []⟩,
    ⟨some 23, .mget true false [0, 0] [.iv (.nsl 1)] (.t 21) (.t 22), none, [0, 1, 2, 3, 4]⟩,
    ⟨some 17, .mov (.t 23), none, [0, 1, 2, 3, 4, 5]⟩,
    ⟨some 24, .ext (.t 17) 0, none, [0, 1, 2, 3, 4, 5, 6]⟩,
    ⟨some 25, .ext (.t 17) 1, none, [0, 1, 2, 3, 4, 5, 6]⟩,
    ⟨some 9, .mov (.t 24), none, [0, 1, 2, 3, 4, 5, 6, 7]⟩,
    ⟨some 10, .mov (.t 25), none, [0, 1, 2, 3, 4, 5, 6, 7, 8, 9]⟩] [0, 6, 8, 9, 10])
   (.seq (.block 0 (.seq (.rgn false [⟨some 27, .mov (.t 10), none, []⟩,
    ⟨some 28, .un .not (.t 27), none, []⟩,
    ⟨some 26, .mov (.t 28), none, []⟩] [0, 6, 8, 9, 26])
   (.cond (.t 26) (.seq (.rgn false [⟨some 29, .build [.iv (.bool false), .iv (.nsl 3), .iv (.nsl 1), .iv (.int .i64 0), .iv (.int .i64 0), .iv (.int .i64 0), .iv (.int .i64 0), .iv (.str ⟨#[]⟩), .iv (.int .i64 0), .iv (.int .i64 0), .iv (.str ⟨#[]⟩), .iv (.int .i64 0), .iv (.int .i64 0), .iv (.str ⟨#[]⟩), .iv (.int .i64 0), .iv (.int .i64 0), .iv (.str ⟨#[]⟩)] [], none, []⟩,
    ⟨none, .store 17 (.t 6) (.t 29), none, []⟩,
    ⟨some 7, .mov (.c (.iv (.int .i64 (5)))), none, []⟩] [6, 7])
   (.ret))
   (.seq (.rgn false [⟨some 31, .mov (.t 9), none, []⟩,
    ⟨some 32, .len false (.t 31), none, []⟩,
    ⟨some 33, .bin .eql 0 (.t 32) (.c (.iv (.int .i64 (0)))), none, []⟩,
    ⟨some 30, .mov (.t 33), none, []⟩] [0, 6, 8, 9, 30])
   (.cond (.t 30) (.seq (.rgn false [⟨some 34, .build [.iv (.bool false), .iv (.nsl 3), .iv (.nsl 1), .iv (.int .i64 0), .iv (.int .i64 0), .iv (.int .i64 0), .iv (.int .i64 0), .iv (.str ⟨#[]⟩), .iv (.int .i64 0), .iv (.int .i64 0), .iv (.str ⟨#[]⟩), .iv (.int .i64 0), .iv (.int .i64 0), .iv (.str ⟨#[]⟩), .iv (.int .i64 0), .iv (.int .i64 0), .iv (.str ⟨#[]⟩)] [], none, []⟩,
    ⟨none, .store 17 (.t 6) (.t 34), none, []⟩,
    ⟨some 7, .mov (.c (.iv (.int .i64 (10)))), none, []⟩] [6, 7])
   (.ret))
   (.skip))))))
   (.seq (.rgn true [⟨some 35, .mov (.t 0), none, []⟩,
    ⟨some 36, .nchk (.t 35), none, [0]⟩,
    ⟨some 37, .fadr 1 (.t 36), none, [0, 1]⟩,
    ⟨some 38, .load false 1 (.t 37), none, [0, 1, 2]⟩,
    ⟨some 39, .load true 2 (.t 8), none, []⟩,
    ⟨some 40, .mov (.t 9), none, []⟩,
    ⟨some 41, .slc 1 (.t 40) (some (.c (.iv (.int .i64 (1))))) none, none, [5]⟩,
    ⟨none, .mput [0, 0] (.t 38) (.t 39) (.t 41), none, [0, 1, 2, 3, 4, 5, 6]⟩] [6, 9])
   (.seq (.rgn false [⟨some 42, .mov (.t 9), none, []⟩,
    ⟨some 43, .isl 1 (.t 42) (.c (.iv (.int .i64 (0)))), none, []⟩,
    ⟨some 44, .load false 1 (.t 43), none, []⟩,
    ⟨some 45, .scall (.c (.iv (.fn 239 []))) [.t 44], none, []⟩,
    ⟨some 46, .ext (.t 45) 0, none, []⟩,
    ⟨some 47, .ext (.t 45) 1, none, []⟩,
    ⟨none, .store 17 (.t 6) (.t 46), none, []⟩,
    ⟨some 7, .mov (.t 47), none, []⟩] [6, 7])
   (.ret))))))), none⟩
/-- (*arbour/link.Net).Push -/
def F257 : IFn := ⟨4, [.t 8],
   .seq (.rgn false [⟨some 7, .box 0 (.t 3), none, []⟩,
    ⟨some 8, .mov (.c (.iv (.int .i64 (0)))), none, []⟩] [0, 1, 2, 7])
   (.seq (.seq (.rgn false [⟨some 14, .mov (.t 0), none, []⟩,
    ⟨some 15, .bin .eql 2 (.t 14) (.c (.iv (.nilp))), none, []⟩] [0, 1, 2, 7, 15])
   (.cond (.t 15) (.seq (.rgn false [⟨some 8, .mov (.c (.iv (.int .i64 (7)))), none, []⟩] [8])
   (.ret))
   (.skip)))
   (.seq (.rgn false [⟨some 16, .mov (.t 1), none, []⟩,
    ⟨some 17, .mov (.t 2), none, []⟩,
    ⟨some 18, .build [.iv (.int .i64 0), .iv (.int .i64 0)] [(0, 1, .t 16), (1, 1, .t 17)], none, []⟩,
    ⟨some 9, .alloc 0 [.iv (.int .i64 0), .iv (.int .i64 0)], none, []⟩,
    ⟨none, .store 2 (.t 9) (.t 18), none, []⟩] [0, 7, 9])
   (.seq (.rgn true [⟨some 20, .mov (.t 0), none, []⟩,
    ⟨some 21, .nchk (.t 20), none, [0]⟩,
    ⟨some 22, .fadr 1 (.t 21), none, [0, 1]⟩,
    ⟨some 23, .load false 1 (.t 22), none, [0, 1, 2]⟩,
    ⟨some 24, .load true 2 (.t 9), none, []⟩,
    ⟨some 25, .mget true false [0, 0] [.iv (.nsl 1)] (.t 23) (.t 24), none, [0, 1, 2, 3, 4]⟩,
    ⟨some 19, .mov (.t 25), none, [0, 1, 2, 3, 4, 5]⟩,
    ⟨some 26, .ext (.t 19) 0, none, [0, 1, 2, 3, 4, 5, 6]⟩,
    ⟨some 27, .ext (.t 19) 1, none, [0, 1, 2, 3, 4, 5, 6]⟩,
    ⟨some 10, .mov (.t 26), none, [0, 1, 2, 3, 4, 5, 6, 7]⟩,
    ⟨some 11, .mov (.t 27), none, [0, 1, 2, 3, 4, 5, 6, 7, 8, 9]⟩] [0, 7, 9, 10, 11])
   (.seq (.seq (.rgn false [⟨some 28, .mov (.t 11), none, []⟩,
    ⟨some 29, .un .not (.t 28), none, []⟩] [0, 7, 9, 10, 29])
   (.cond (.t 29) (.seq (.rgn false [⟨some 8, .mov (.c (.iv (.int .i64 (5)))), none, []⟩] [8])
   (.ret))
   (.skip)))
   (.seq (.rgn false [⟨some 31, .load true 17 (.t 7), none, []⟩,
    ⟨some 32, .scall (.c (.iv (.fn 262 []))) [.t 31], none, []⟩,
    ⟨some 30, .mov (.t 32), none, []⟩,
    ⟨some 33, .ext (.t 30) 0, none, []⟩,
    ⟨some 34, .ext (.t 30) 1, none, []⟩,
    ⟨some 12, .mov (.t 33), none, []⟩,
    ⟨some 13, .mov (.t 34), none, []⟩] [0, 7, 9, 10, 12, 13])
   (.seq (.seq (.rgn false [⟨some 35, .mov (.t 13), none, []⟩,
    ⟨some 36, .bin .neq 0 (.t 35) (.c (.iv (.int .i64 (0)))), none, []⟩] [0, 7, 9, 10, 12, 13, 36])
   (.cond (.t 36) (.seq (.rgn false [⟨some 37, .mov (.t 13), none, []⟩,
    ⟨some 8, .mov (.t 37), none, []⟩] [8])
   (.ret))
   (.skip)))
   (.seq (.rgn true [⟨some 38, .mov (.t 0), none, []⟩,
    ⟨some 39, .nchk (.t 38), none, [0]⟩,
    ⟨some 40, .fadr 1 (.t 39), none, [0, 1]⟩,
    ⟨some 41, .load false 1 (.t 40), none, [0, 1, 2]⟩,
    ⟨some 42, .load true 2 (.t 9), none, []⟩,
    ⟨some 43, .mov (.t 10), none, []⟩,
    ⟨some 44, .scall (.c (.iv (.fn 54 []))) [.t 43], none, [5]⟩,
    ⟨some 45, .mov (.t 12), none, []⟩,
    ⟨some 46, .bsl 1 [.iv (.str ⟨#[]⟩)] 1 [(0, .t 45)], none, [7]⟩,
    ⟨some 47, .app 1 false (.t 44) (.t 46), none, [5, 6, 7, 8]⟩,
    ⟨none, .mput [0, 0] (.t 41) (.t 42) (.t 47), none, [0, 1, 2, 3, 4, 5, 6, 7, 8, 9]⟩] [0, 7])
   (.seq (.seq (.rgn false [⟨some 48, .fadr 0 (.t 7), none, []⟩,
    ⟨some 49, .load false 1 (.t 48), none, []⟩] [0, 49])
   (.cond (.t 49) (.rgn false [⟨some 50, .mov (.t 0), none, []⟩,
    ⟨some 51, .nchk (.t 50), none, []⟩,
    ⟨some 52, .fadr 2 (.t 51), none, []⟩,
    ⟨some 53, .scall (.c (.iv (.fn 261 []))) [.t 52, .c (.iv (.int .i64 (1)))], none, []⟩] [])
   (.rgn false [⟨some 54, .mov (.t 0), none, []⟩,
    ⟨some 55, .nchk (.t 54), none, []⟩,
    ⟨some 56, .fadr 3 (.t 55), none, []⟩,
    ⟨some 57, .scall (.c (.iv (.fn 261 []))) [.t 56, .c (.iv (.int .i64 (1)))], none, []⟩] [])))
   (.seq (.rgn false [⟨some 8, .mov (.c (.iv (.int .i64 (0)))), none, []⟩] [8])
   (.ret)))))))))), none⟩
/-- (*arbour/link.Net).Sent -/
def F217 : IFn := ⟨1, [.t 2, .t 3],
   .seq (.rgn false [⟨some 2, .mov (.c (.iv (.int .i64 (0)))), none, []⟩,
    ⟨some 3, .mov (.c (.iv (.int .i64 (0)))), none, []⟩] [0])
   (.seq (.seq (.rgn false [⟨some 4, .mov (.t 0), none, []⟩,
    ⟨some 5, .bin .eql 2 (.t 4) (.c (.iv (.nilp))), none, []⟩] [0, 5])
   (.cond (.t 5) (.seq (.rgn false [⟨some 2, .mov (.c (.iv (.int .i64 (0)))), none, []⟩,
    ⟨some 3, .mov (.c (.iv (.int .i64 (0)))), none, []⟩] [2, 3])
   (.ret))
   (.skip)))
   (.seq (.rgn true [⟨some 6, .mov (.t 0), none, []⟩,
    ⟨some 7, .nchk (.t 6), none, [0]⟩,
    ⟨some 8, .fadr 2 (.t 7), none, [0, 1]⟩,
    ⟨some 9, .scall (.c (.iv (.fn 218 []))) [.t 8], none, [0, 1, 2]⟩,
    ⟨some 10, .mov (.t 0), none, []⟩,
    ⟨some 11, .nchk (.t 10), none, [4]⟩,
    ⟨some 12, .fadr 3 (.t 11), none, [4, 5]⟩,
    ⟨some 13, .scall (.c (.iv (.fn 218 []))) [.t 12], none, [0, 1, 2, 3, 4, 5, 6]⟩,
    ⟨some 2, .mov (.t 9), none, [0, 1, 2, 3, 4, 5, 6, 7]⟩,
    ⟨some 3, .mov (.t 13), none, [0, 1, 2, 3, 4, 5, 6, 7, 8]⟩] [2, 3])
   (.ret))), none⟩
/-- (*arbour/link.Net).Total -/
def F219 : IFn := ⟨1, [], .skip, some (Prim.total)⟩
/-- (*arbour/session.Session).Deliver -/
def F258 : IFn := ⟨2, [.t 4],
   .seq (.rgn false [⟨some 3, .box 0 (.t 1), none, []⟩,
    ⟨some 4, .mov (.c (.iv (.bool false))), none, []⟩] [0, 3])
   (.seq (.seq (.rgn true [⟨some 5, .mov (.t 0), none, []⟩,
    ⟨some 6, .bin .eql 2 (.t 5) (.c (.iv (.nilp))), none, [0]⟩,
    ⟨some 7, .mov (.t 6), none, [0, 1]⟩,
    ⟨some 8, .mov (.t 0), some (7, false), [0, 1, 2]⟩,
    ⟨some 9, .nchk (.t 8), some (7, false), [0, 1, 2, 3]⟩,
    ⟨some 10, .fadr 2 (.t 9), some (7, false), [0, 1, 2, 3, 4]⟩,
    ⟨some 11, .load false 1 (.t 10), some (7, false), [0, 1, 2, 3, 4, 5]⟩,
    ⟨some 12, .fadr 0 (.t 3), some (7, false), [0, 1, 2]⟩,
    ⟨some 13, .load false 1 (.t 12), some (7, false), [0, 1, 2, 7]⟩,
    ⟨some 14, .mget false false [0] [.iv (.bool false)] (.t 11) (.t 13), some (7, false), [0, 1, 2, 3, 4, 5, 6, 7, 8]⟩,
    ⟨some 15, .pick (.t 7) (.c (.iv (.bool true))) (.t 14), none, [0, 1, 2, 3, 4, 5, 6, 7, 8, 9]⟩,
    ⟨some 16, .mov (.t 15), none, [0, 1, 2, 3, 4, 5, 6, 7, 8, 9, 10]⟩,
    ⟨some 17, .mov (.t 0), some (16, false), [0, 1, 2, 3, 4, 5, 6, 7, 8, 9, 10, 11]⟩,
    ⟨some 18, .fadr 2 (.t 3), some (16, false), [0, 1, 2, 3, 4, 5, 6, 7, 8, 9, 10, 11]⟩,
    ⟨some 19, .load true 12 (.t 18), some (16, false), [0, 1, 2, 3, 4, 5, 6, 7, 8, 9, 10, 11, 13]⟩,
    ⟨some 20, .scall (.c (.iv (.fn 259 []))) [.t 17, .t 19], some (16, false), [0, 1, 2, 3, 4, 5, 6, 7, 8, 9, 10, 11, 12, 13, 14]⟩,
    ⟨some 21, .un .not (.t 20), some (16, false), [0, 1, 2, 3, 4, 5, 6, 7, 8, 9, 10, 11, 12, 13, 14, 15]⟩,
    ⟨some 22, .pick (.t 16) (.c (.iv (.bool true))) (.t 21), none, [0, 1, 2, 3, 4, 5, 6, 7, 8, 9, 10, 11, 12, 13, 14, 15, 16]⟩] [0, 3, 22])
   (.cond (.t 22) (.seq (.rgn false [⟨some 4, .mov (.c (.iv (.bool false))), none, []⟩] [4])
   (.ret))
   (.skip)))
   (.seq (.rgn true [⟨some 23, .mov (.t 0), none, []⟩,
    ⟨some 24, .nchk (.t 23), none, [0]⟩,
    ⟨some 25, .fadr 2 (.t 24), none, [0, 1]⟩,
    ⟨some 26, .load false 1 (.t 25), none, [0, 1, 2]⟩,
    ⟨some 27, .fadr 0 (.t 3), none, []⟩,
    ⟨some 28, .load false 1 (.t 27), none, [4]⟩,
    ⟨none, .mput [0] (.t 26) (.t 28) (.c (.iv (.bool true))), none, [0, 1, 2, 3, 4, 5]⟩] [0, 3])
   (.seq (.rgn true [⟨some 29, .mov (.t 0), none, []⟩,
    ⟨some 30, .mov (.t 0), none, []⟩,
    ⟨some 31, .nchk (.t 30), none, [1]⟩,
    ⟨some 32, .fadr 3 (.t 31), none, [1, 2]⟩,
    ⟨some 33, .load false 1 (.t 32), none, [1, 2, 3]⟩,
    ⟨some 34, .fadr 0 (.t 3), none, []⟩,
    ⟨some 35, .load false 1 (.t 34), none, [5]⟩,
    ⟨some 36, .bsl 1 [.iv (.int .i64 0)] 1 [(0, .t 35)], none, [5, 6]⟩,
    ⟨some 37, .app 1 false (.t 33) (.t 36), none, [1, 2, 3, 4, 5, 6, 7]⟩,
    ⟨some 38, .nchk (.t 29), none, [0, 1, 2, 3, 4, 5, 6, 7, 8]⟩,
    ⟨some 39, .fadr 3 (.t 38), none, [0, 1, 2, 3, 4, 5, 6, 7, 8, 9]⟩,
    ⟨none, .store 1 (.t 39) (.t 37), none, [0, 1, 2, 3, 4, 5, 6, 7, 8, 9, 10]⟩] [])
   (.seq (.rgn false [⟨some 4, .mov (.c (.iv (.bool true))), none, []⟩] [4])
   (.ret))))), none⟩
/-- (*arbour/session.Session).Got -/
def F224 : IFn := ⟨1, [.t 2],
   .seq (.rgn false [⟨some 2, .mov (.c (.iv (.nsl 1))), none, []⟩] [0])
   (.seq (.seq (.rgn false [⟨some 3, .mov (.t 0), none, []⟩,
    ⟨some 4, .bin .eql 2 (.t 3) (.c (.iv (.nilp))), none, []⟩] [0, 4])
   (.cond (.t 4) (.seq (.rgn false [⟨some 2, .mov (.c (.iv (.nsl 1))), none, []⟩] [2])
   (.ret))
   (.skip)))
   (.seq (.rgn false [⟨some 5, .mov (.t 0), none, []⟩,
    ⟨some 6, .nchk (.t 5), none, []⟩,
    ⟨some 7, .fadr 3 (.t 6), none, []⟩,
    ⟨some 8, .load false 1 (.t 7), none, []⟩,
    ⟨some 9, .scall (.c (.iv (.fn 225 []))) [.t 8], none, []⟩,
    ⟨some 2, .mov (.t 9), none, []⟩] [2])
   (.ret))), none⟩
/-- (*arbour/session.Session).Has -/
def F259 : IFn := ⟨2, [.t 4],
   .seq (.rgn false [⟨some 3, .box 0 (.t 1), none, []⟩,
    ⟨some 4, .mov (.c (.iv (.bool false))), none, []⟩] [0, 3])
   (.seq (.rgn false [⟨some 5, .mov (.t 0), none, []⟩,
    ⟨some 6, .bin .neq 2 (.t 5) (.c (.iv (.nilp))), none, []⟩,
    ⟨some 7, .mov (.t 6), none, []⟩,
    ⟨some 8, .mov (.t 0), some (7, true), []⟩,
    ⟨some 9, .nchk (.t 8), some (7, true), []⟩,
    ⟨some 10, .fadr 1 (.t 9), some (7, true), []⟩,
    ⟨some 11, .load false 1 (.t 10), some (7, true), []⟩,
    ⟨some 12, .mkf 260 [] [.t 3], some (7, true), []⟩,
    ⟨some 13, .scall (.c (.iv (.fn 140 []))) [.t 11, .t 12], some (7, true), []⟩,
    ⟨some 14, .pick (.t 7) (.t 13) (.c (.iv (.bool false))), none, []⟩,
    ⟨some 4, .mov (.t 14), none, []⟩] [4])
   (.ret)), none⟩
/-- (*strings.Builder).String -/
def F263 : IFn := ⟨1, [.t 2],
   .seq (.rgn false [⟨some 2, .mov (.c (.iv (.str ⟨#[]⟩))), none, []⟩] [0])
   (.seq (.rgn true [⟨some 3, .mov (.t 0), none, []⟩,
    ⟨some 4, .nchk (.t 3), none, [0]⟩,
    ⟨some 5, .fadr 1 (.t 4), none, [0, 1]⟩,
    ⟨some 6, .load false 1 (.t 5), none, [0, 1, 2]⟩,
    ⟨some 7, .usd (.t 6), none, [0, 1, 2, 3]⟩,
    ⟨some 8, .mov (.t 0), none, []⟩,
    ⟨some 9, .nchk (.t 8), none, [5]⟩,
    ⟨some 10, .fadr 1 (.t 9), none, [5, 6]⟩,
    ⟨some 11, .load false 1 (.t 10), none, [5, 6, 7]⟩,
    ⟨some 12, .len false (.t 11), none, [5, 6, 7, 8]⟩,
    ⟨some 13, .ustr (.t 7) (.t 12), none, [0, 1, 2, 3, 4, 5, 6, 7, 8, 9]⟩,
    ⟨some 2, .mov (.t 13), none, [0, 1, 2, 3, 4, 5, 6, 7, 8, 9, 10]⟩] [2])
   (.ret)), none⟩
/-- (*strings.Builder).WriteByte -/
def F268 : IFn := ⟨2, [.t 4],
   .seq (.rgn false [⟨some 4, .mov (.c (.nul 1)), none, []⟩] [0, 1])
   (.seq (.rgn false [⟨some 5, .mov (.t 0), none, []⟩,
    ⟨some 6, .scall (.c (.iv (.fn 272 []))) [.t 5], none, []⟩] [0, 1])
   (.seq (.rgn false [⟨some 7, .mov (.t 0), none, []⟩,
    ⟨some 8, .mov (.t 0), none, []⟩,
    ⟨some 9, .nchk (.t 8), none, []⟩,
    ⟨some 10, .fadr 1 (.t 9), none, []⟩,
    ⟨some 11, .load false 1 (.t 10), none, []⟩,
    ⟨some 12, .mov (.t 1), none, []⟩,
    ⟨some 13, .bsl 1 [.iv (.int .u8 0)] 1 [(0, .t 12)], none, []⟩,
    ⟨some 14, .app 1 true (.t 11) (.t 13), none, []⟩,
    ⟨some 15, .nchk (.t 7), none, []⟩,
    ⟨some 16, .fadr 1 (.t 15), none, []⟩,
    ⟨none, .store 1 (.t 16) (.t 14), none, []⟩] [])
   (.seq (.rgn false [⟨some 4, .mov (.c (.nul 1)), none, []⟩] [4])
   (.ret)))), none⟩
/-- (*strings.Builder).WriteString -/
def F267 : IFn := ⟨2, [.t 4, .t 5],
   .seq (.rgn false [⟨some 4, .mov (.c (.iv (.int .i64 (0)))), none, []⟩,
    ⟨some 5, .mov (.c (.nul 1)), none, []⟩] [0, 1])
   (.seq (.rgn false [⟨some 6, .mov (.t 0), none, []⟩,
    ⟨some 7, .scall (.c (.iv (.fn 272 []))) [.t 6], none, []⟩] [0, 1])
   (.seq (.rgn false [⟨some 8, .mov (.t 0), none, []⟩,
    ⟨some 9, .mov (.t 0), none, []⟩,
    ⟨some 10, .nchk (.t 9), none, []⟩,
    ⟨some 11, .fadr 1 (.t 10), none, []⟩,
    ⟨some 12, .load false 1 (.t 11), none, []⟩,
    ⟨some 13, .mov (.t 1), none, []⟩,
    ⟨some 14, .app 1 true (.t 12) (.t 13), none, []⟩,
    ⟨some 15, .nchk (.t 8), none, []⟩,
    ⟨some 16, .fadr 1 (.t 15), none, []⟩,
    ⟨none, .store 1 (.t 16) (.t 14), none, []⟩] [1])
   (.seq (.rgn false [⟨some 17, .mov (.t 1), none, []⟩,
    ⟨some 18, .len true (.t 17), none, []⟩,
    ⟨some 4, .mov (.t 18), none, []⟩,
    ⟨some 5, .mov (.c (.nul 1)), none, []⟩] [4, 5])
   (.ret)))), none⟩
/-- (*strings.Builder).copyCheck -/
def F272 : IFn := ⟨1, [],
   .seq (.rgn false [⟨some 2, .mov (.t 0), none, []⟩,
    ⟨some 3, .nchk (.t 2), none, []⟩,
    ⟨some 4, .fadr 0 (.t 3), none, []⟩,
    ⟨some 5, .load false 1 (.t 4), none, []⟩,
    ⟨some 6, .bin .eql 2 (.t 5) (.c (.iv (.nilp))), none, []⟩] [0, 6])
   (.cond (.t 6) (.rgn false [⟨some 7, .mov (.t 0), none, []⟩,
    ⟨some 8, .mov (.t 0), none, []⟩,
    ⟨some 9, .toU (.t 8), none, []⟩,
    ⟨some 10, .noesc (.t 9), none, []⟩,
    ⟨some 11, .ofU (.t 10), none, []⟩,
    ⟨some 12, .nchk (.t 7), none, []⟩,
    ⟨some 13, .fadr 0 (.t 12), none, []⟩,
    ⟨none, .store 1 (.t 13) (.t 11), none, []⟩] [])
   (.seq (.rgn false [⟨some 14, .mov (.t 0), none, []⟩,
    ⟨some 15, .nchk (.t 14), none, []⟩,
    ⟨some 16, .fadr 0 (.t 15), none, []⟩,
    ⟨some 17, .load false 1 (.t 16), none, []⟩,
    ⟨some 18, .mov (.t 0), none, []⟩,
    ⟨some 19, .bin .neq 2 (.t 17) (.t 18), none, []⟩] [19])
   (.cond (.t 19) (.stop)
   (.skip)))), none⟩
/-- (*sync/atomic.Int64).Add -/
def F261 : IFn := ⟨2, [.t 4],
   .seq (.rgn false [⟨some 4, .mov (.c (.iv (.int .i64 (0)))), none, []⟩] [0, 1])
   (.seq (.rgn false [⟨some 5, .mov (.t 0), none, []⟩,
    ⟨some 6, .nchk (.t 5), none, []⟩,
    ⟨some 7, .fadr 0 (.t 6), none, []⟩,
    ⟨some 8, .mov (.t 1), none, []⟩,
    ⟨some 9, .aadd .i64 (.t 7) (.t 8), none, []⟩,
    ⟨some 4, .mov (.t 9), none, []⟩] [4])
   (.ret)), none⟩
/-- (*sync/atomic.Int64).Load -/
def F218 : IFn := ⟨1, [.t 2],
   .seq (.rgn false [⟨some 2, .mov (.c (.iv (.int .i64 (0)))), none, []⟩] [0])
   (.seq (.rgn false [⟨some 3, .mov (.t 0), none, []⟩,
    ⟨some 4, .nchk (.t 3), none, []⟩,
    ⟨some 5, .fadr 0 (.t 4), none, []⟩,
    ⟨some 6, .aload .i64 (.t 5), none, []⟩,
    ⟨some 2, .mov (.t 6), none, []⟩] [2])
   (.ret)), none⟩
/-- arbour/arbourlaw21.FloodNil -/
def F275 : IFn := ⟨1, [.t 2],
   .seq (.rgn false [⟨some 1, .box 0 (.t 0), none, []⟩,
    ⟨some 2, .mov (.c (.iv (.bool false))), none, []⟩] [1])
   (.seq (.seq (.rgn false [⟨some 6, .scall (.c (.iv (.fn 215 []))) [], none, []⟩,
    ⟨some 7, .un .not (.t 6), none, []⟩,
    ⟨some 8, .mov (.t 7), none, []⟩,
    ⟨some 9, .build [.iv (.nsl 1), .iv (.nsl 1), .iv (.int .i64 0), .iv (.int .u64 0)] [], some (8, false), []⟩,
    ⟨some 10, .load true 24 (.t 1), some (8, false), []⟩,
    ⟨some 11, .bsl 24 [.iv (.int .i64 0), .iv (.int .i64 0), .iv (.int .i64 0), .iv (.int .i64 0), .iv (.int .i64 0), .iv (.int .i64 0), .iv (.int .i64 0), .iv (.bool false), .iv (.nsl 2), .iv (.bool false), .iv (.nsl 1), .iv (.nsl 7), .iv (.int .i64 0), .iv (.int .i64 0), .iv (.str ⟨#[]⟩), .iv (.int .i64 0), .iv (.int .i64 0), .iv (.str ⟨#[]⟩), .iv (.int .i64 0), .iv (.int .i64 0), .iv (.str ⟨#[]⟩), .iv (.int .i64 0), .iv (.int .i64 0), .iv (.str ⟨#[]⟩)] 1 [(0, .t 10)], some (8, false), []⟩,
    ⟨some 12, .call 0 (.c (.iv (.fn 201 []))) [.t 9, .t 11], some (8, false), []⟩,
    ⟨some 13, .un .not (.t 12), some (8, false), []⟩,
    ⟨some 14, .pick (.t 8) (.c (.iv (.bool true))) (.t 13), none, []⟩] [1, 14])
   (.cond (.t 14) (.seq (.rgn false [⟨some 15, .scall (.c (.iv (.fn 215 []))) [], none, []⟩,
    ⟨some 2, .mov (.t 15), none, []⟩] [2])
   (.ret))
   (.skip)))
   (.seq (.rgn false [⟨some 3, .mov (.c (.iv (.nilp))), none, []⟩] [1, 3])
   (.seq (.rgn false [⟨some 17, .mov (.t 3), none, []⟩,
    ⟨some 18, .load true 24 (.t 1), none, []⟩,
    ⟨some 19, .scall (.c (.iv (.fn 214 []))) [.t 17, .t 18], none, []⟩,
    ⟨some 16, .mov (.t 19), none, []⟩,
    ⟨some 20, .ext (.t 16) 0, none, []⟩,
    ⟨some 21, .ext (.t 16) 1, none, []⟩,
    ⟨some 4, .mov (.t 20), none, []⟩,
    ⟨some 5, .mov (.t 21), none, []⟩] [1, 3, 5])
   (.seq (.rgn false [⟨some 22, .mov (.t 5), none, []⟩,
    ⟨some 23, .bin .eql 0 (.t 22) (.c (.iv (.int .i64 (7)))), none, []⟩,
    ⟨some 24, .mov (.t 23), none, []⟩,
    ⟨some 25, .mov (.t 3), some (24, true), []⟩,
    ⟨some 26, .scall (.c (.iv (.fn 210 []))) [.t 25], some (24, true), []⟩,
    ⟨some 27, .len false (.t 26), some (24, true), []⟩,
    ⟨some 28, .bin .eql 0 (.t 27) (.c (.iv (.int .i64 (0)))), some (24, true), []⟩,
    ⟨some 29, .pick (.t 24) (.t 28) (.c (.iv (.bool false))), none, []⟩,
    ⟨some 30, .mov (.t 29), none, []⟩,
    ⟨some 31, .mov (.t 3), some (30, true), []⟩,
    ⟨some 32, .fadr 1 (.t 1), some (30, true), []⟩,
    ⟨some 33, .load false 1 (.t 32), some (30, true), []⟩,
    ⟨some 34, .scall (.c (.iv (.fn 211 []))) [.t 31, .t 33], some (30, true), []⟩,
    ⟨some 35, .len false (.t 34), some (30, true), []⟩,
    ⟨some 36, .bin .eql 0 (.t 35) (.c (.iv (.int .i64 (0)))), some (30, true), []⟩,
    ⟨some 37, .pick (.t 30) (.t 36) (.c (.iv (.bool false))), none, []⟩,
    ⟨some 38, .mov (.t 37), none, []⟩,
    ⟨some 39, .mov (.t 3), some (38, true), []⟩,
    ⟨some 40, .scall (.c (.iv (.fn 212 []))) [.t 39], some (38, true), []⟩,
    ⟨some 41, .mov (.t 3), some (38, true), []⟩,
    ⟨some 42, .scall (.c (.iv (.fn 213 []))) [.t 41], some (38, true), []⟩,
    ⟨some 43, .bin .add 0 (.t 40) (.t 42), some (38, true), []⟩,
    ⟨some 44, .bin .eql 0 (.t 43) (.c (.iv (.int .i64 (0)))), some (38, true), []⟩,
    ⟨some 45, .pick (.t 38) (.t 44) (.c (.iv (.bool false))), none, []⟩,
    ⟨some 2, .mov (.t 45), none, []⟩] [2])
   (.ret))))), none⟩
/-- arbour/arbourlaw21.awake -/
def F215 : IFn := ⟨0, [.t 0],
   .seq (.rgn false [⟨some 0, .mov (.c (.iv (.bool false))), none, []⟩] [])
   (.seq (.rgn false [⟨some 10, .bsl 1 [.iv (.int .i64 0)] 2 [(0, .c (.iv (.int .i64 (0)))), (1, .c (.iv (.int .i64 (1))))], none, []⟩,
    ⟨some 11, .bsl 1 [.iv (.int .i64 0)] 1 [(0, .c (.iv (.int .i64 (0))))], none, []⟩,
    ⟨some 12, .build [.iv (.nsl 1), .iv (.nsl 1), .iv (.int .i64 0), .iv (.int .u64 0)] [(0, 1, .t 10), (1, 1, .t 11)], none, []⟩,
    ⟨some 13, .scall (.c (.iv (.fn 220 []))) [.t 12], none, []⟩,
    ⟨some 9, .mov (.t 13), none, []⟩,
    ⟨some 14, .ext (.t 9) 0, none, []⟩,
    ⟨some 15, .ext (.t 9) 1, none, []⟩,
    ⟨some 1, .mov (.t 14), none, []⟩,
    ⟨some 2, .mov (.t 15), none, []⟩] [1, 2])
   (.seq (.seq (.rgn false [⟨some 16, .mov (.t 1), none, []⟩,
    ⟨some 17, .bin .eql 2 (.t 16) (.c (.iv (.nilp))), none, []⟩] [1, 2, 17])
   (.cond (.t 17) (.seq (.rgn false [⟨some 0, .mov (.c (.iv (.bool false))), none, []⟩] [0])
   (.ret))
   (.skip)))
   (.seq (.rgn false [⟨some 19, .mov (.t 1), none, []⟩,
    ⟨some 20, .build [.iv (.int .i64 0), .iv (.int .i64 0), .iv (.int .i64 0), .iv (.int .i64 0), .iv (.int .i64 0), .iv (.int .i64 0), .iv (.int .i64 0), .iv (.bool false), .iv (.nsl 2), .iv (.bool false), .iv (.nsl 1), .iv (.nsl 7), .iv (.int .i64 0), .iv (.int .i64 0), .iv (.str ⟨#[]⟩), .iv (.int .i64 0), .iv (.int .i64 0), .iv (.str ⟨#[]⟩), .iv (.int .i64 0), .iv (.int .i64 0), .iv (.str ⟨#[]⟩), .iv (.int .i64 0), .iv (.int .i64 0), .iv (.str ⟨#[]⟩)] [(0, 1, .c (.iv (.int .i64 (3))))], none, []⟩,
    ⟨some 21, .scall (.c (.iv (.fn 214 []))) [.t 19, .t 20], none, []⟩,
    ⟨some 18, .mov (.t 21), none, []⟩,
    ⟨some 22, .ext (.t 18) 0, none, []⟩,
    ⟨some 23, .ext (.t 18) 1, none, []⟩,
    ⟨some 3, .mov (.t 22), none, []⟩,
    ⟨some 4, .mov (.t 23), none, []⟩] [1, 2, 3, 4])
   (.seq (.rgn false [⟨some 25, .mov (.t 1), none, []⟩,
    ⟨some 26, .build [.iv (.int .i64 0), .iv (.int .i64 0), .iv (.int .i64 0), .iv (.int .i64 0), .iv (.int .i64 0), .iv (.int .i64 0), .iv (.int .i64 0), .iv (.bool false), .iv (.nsl 2), .iv (.bool false), .iv (.nsl 1), .iv (.nsl 7), .iv (.int .i64 0), .iv (.int .i64 0), .iv (.str ⟨#[]⟩), .iv (.int .i64 0), .iv (.int .i64 0), .iv (.str ⟨#[]⟩), .iv (.int .i64 0), .iv (.int .i64 0), .iv (.str ⟨#[]⟩), .iv (.int .i64 0), .iv (.int .i64 0), .iv (.str ⟨#[]⟩)] [(0, 1, .c (.iv (.int .i64 (5))))], none, []⟩,
    ⟨some 27, .scall (.c (.iv (.fn 214 []))) [.t 25, .t 26], none, []⟩,
    ⟨some 24, .mov (.t 27), none, []⟩,
    ⟨some 28, .ext (.t 24) 0, none, []⟩,
    ⟨some 29, .ext (.t 24) 1, none, []⟩,
    ⟨some 5, .mov (.t 28), none, []⟩,
    ⟨some 6, .mov (.t 29), none, []⟩] [1, 2, 3, 4, 5])
   (.seq (.rgn false [⟨some 31, .mov (.t 1), none, []⟩,
    ⟨some 32, .build [.iv (.int .i64 0), .iv (.int .i64 0), .iv (.int .i64 0), .iv (.int .i64 0), .iv (.int .i64 0), .iv (.int .i64 0), .iv (.int .i64 0), .iv (.bool false), .iv (.nsl 2), .iv (.bool false), .iv (.nsl 1), .iv (.nsl 7), .iv (.int .i64 0), .iv (.int .i64 0), .iv (.str ⟨#[]⟩), .iv (.int .i64 0), .iv (.int .i64 0), .iv (.str ⟨#[]⟩), .iv (.int .i64 0), .iv (.int .i64 0), .iv (.str ⟨#[]⟩), .iv (.int .i64 0), .iv (.int .i64 0), .iv (.str ⟨#[]⟩)] [(0, 1, .c (.iv (.int .i64 (3)))), (1, 1, .c (.iv (.int .i64 (1))))], none, []⟩,
    ⟨some 33, .scall (.c (.iv (.fn 214 []))) [.t 31, .t 32], none, []⟩,
    ⟨some 30, .mov (.t 33), none, []⟩,
    ⟨some 34, .ext (.t 30) 0, none, []⟩,
    ⟨some 35, .ext (.t 30) 1, none, []⟩,
    ⟨some 7, .mov (.t 34), none, []⟩,
    ⟨some 8, .mov (.t 35), none, []⟩] [1, 2, 3, 4, 5, 8])
   (.seq (.rgn false [⟨some 36, .mov (.t 2), none, []⟩,
    ⟨some 37, .bin .eql 0 (.t 36) (.c (.iv (.int .i64 (0)))), none, []⟩,
    ⟨some 38, .mov (.t 37), none, []⟩,
    ⟨some 39, .mov (.t 3), some (38, true), []⟩,
    ⟨some 40, .bin .eql 0 (.t 39) (.c (.iv (.int .i64 (1)))), some (38, true), []⟩,
    ⟨some 41, .pick (.t 38) (.t 40) (.c (.iv (.bool false))), none, []⟩,
    ⟨some 42, .mov (.t 41), none, []⟩,
    ⟨some 43, .mov (.t 4), some (42, true), []⟩,
    ⟨some 44, .bin .eql 0 (.t 43) (.c (.iv (.int .i64 (0)))), some (42, true), []⟩,
    ⟨some 45, .pick (.t 42) (.t 44) (.c (.iv (.bool false))), none, []⟩,
    ⟨some 46, .mov (.t 45), none, []⟩,
    ⟨some 47, .mov (.t 5), some (46, true), []⟩,
    ⟨some 48, .bin .eql 0 (.t 47) (.c (.iv (.int .i64 (2)))), some (46, true), []⟩,
    ⟨some 49, .pick (.t 46) (.t 48) (.c (.iv (.bool false))), none, []⟩,
    ⟨some 50, .mov (.t 49), none, []⟩,
    ⟨some 51, .mov (.t 8), some (50, true), []⟩,
    ⟨some 52, .bin .eql 0 (.t 51) (.c (.iv (.int .i64 (5)))), some (50, true), []⟩,
    ⟨some 53, .pick (.t 50) (.t 52) (.c (.iv (.bool false))), none, []⟩,
    ⟨some 54, .mov (.t 53), none, []⟩,
    ⟨some 55, .mov (.t 1), some (54, true), []⟩,
    ⟨some 56, .scall (.c (.iv (.fn 213 []))) [.t 55], some (54, true), []⟩,
    ⟨some 57, .bin .eql 0 (.t 56) (.c (.iv (.int .i64 (2)))), some (54, true), []⟩,
    ⟨some 58, .pick (.t 54) (.t 57) (.c (.iv (.bool false))), none, []⟩,
    ⟨some 59, .mov (.t 58), none, []⟩,
    ⟨some 60, .mov (.t 1), some (59, true), []⟩,
    ⟨some 61, .scall (.c (.iv (.fn 212 []))) [.t 60], some (59, true), []⟩,
    ⟨some 62, .bin .eql 0 (.t 61) (.c (.iv (.int .i64 (0)))), some (59, true), []⟩,
    ⟨some 63, .pick (.t 59) (.t 62) (.c (.iv (.bool false))), none, []⟩,
    ⟨some 64, .mov (.t 63), none, []⟩,
    ⟨some 65, .mov (.t 1), some (64, true), []⟩,
    ⟨some 66, .scall (.c (.iv (.fn 211 []))) [.t 65, .c (.iv (.int .i64 (0)))], some (64, true), []⟩,
    ⟨some 67, .len false (.t 66), some (64, true), []⟩,
    ⟨some 68, .bin .eql 0 (.t 67) (.c (.iv (.int .i64 (0)))), some (64, true), []⟩,
    ⟨some 69, .pick (.t 64) (.t 68) (.c (.iv (.bool false))), none, []⟩,
    ⟨some 0, .mov (.t 69), none, []⟩] [0])
   (.ret))))))), none⟩
/-- arbour/codec.Read -/
def F248 : IFn := ⟨1, [.t 2],
   .seq (.rgn false [⟨some 2, .mov (.c (.iv (.nilp))), none, []⟩] [0])
   (.seq (.rgn false [⟨some 3, .mov (.t 0), none, []⟩,
    ⟨some 4, .build [.iv (.str ⟨#[]⟩), .iv (.int .i64 0)] [(0, 1, .t 3)], none, []⟩,
    ⟨some 5, .box 0 (.t 4), none, []⟩,
    ⟨some 2, .mov (.t 5), none, []⟩] [2])
   (.ret)), none⟩
/-- arbour/codec.Uint -/
def F265 : IFn := ⟨1, [.t 2],
   .seq (.rgn false [⟨some 2, .mov (.c (.iv (.str ⟨#[]⟩))), none, []⟩] [0])
   (.seq (.rgn false [⟨some 3, .alloc 0 [.iv (.int .u8 0), .iv (.int .u8 0), .iv (.int .u8 0), .iv (.int .u8 0), .iv (.int .u8 0), .iv (.int .u8 0), .iv (.int .u8 0), .iv (.int .u8 0), .iv (.int .u8 0), .iv (.int .u8 0)], none, []⟩] [0, 3])
   (.seq (.rgn false [⟨some 4, .mov (.c (.iv (.int .i64 (9)))), none, []⟩] [0, 3, 4])
   (.seq (.rgn false [⟨some 5, .mov (.t 4), none, []⟩,
    ⟨some 6, .mov (.t 0), none, []⟩,
    ⟨some 7, .bin .rem 0 (.t 6) (.c (.iv (.int .u64 (128)))), none, []⟩,
    ⟨some 8, .cvi .u8 (.t 7), none, []⟩,
    ⟨some 9, .iarr 10 1 (.t 3) (.t 5), none, []⟩,
    ⟨none, .store 1 (.t 9) (.t 8), none, []⟩] [0, 3, 4])
   (.seq (.seq (.rgn false [⟨some 10, .mov (.t 0), none, []⟩,
    ⟨some 11, .bin .quo 0 (.t 10) (.c (.iv (.int .u64 (128)))), none, []⟩,
    ⟨some 0, .mov (.t 11), none, []⟩] [0, 3, 4])
   (.block 0 (.loop [0, 3, 4] (.seq (.seq (.rgn false [⟨some 12, .mov (.t 0), none, []⟩,
    ⟨some 13, .bin .gtr 0 (.t 12) (.c (.iv (.int .u64 (0)))), none, []⟩] [0, 3, 4, 13])
   (.cond (.t 13) (.skip)
   (.exit 0)))
   (.seq (.block 1 (.seq (.rgn false [⟨some 16, .mov (.t 4), none, []⟩,
    ⟨some 17, .bin .sub 0 (.t 16) (.c (.iv (.int .i64 (1)))), none, []⟩,
    ⟨some 4, .mov (.t 17), none, []⟩] [0, 3, 4])
   (.rgn false [⟨some 18, .mov (.t 4), none, []⟩,
    ⟨some 19, .mov (.t 0), none, []⟩,
    ⟨some 20, .bin .rem 0 (.t 19) (.c (.iv (.int .u64 (128)))), none, []⟩,
    ⟨some 21, .cvi .u8 (.t 20), none, []⟩,
    ⟨some 22, .bin .or 0 (.t 21) (.c (.iv (.int .u8 (128)))), none, []⟩,
    ⟨some 23, .iarr 10 1 (.t 3) (.t 18), none, []⟩,
    ⟨none, .store 1 (.t 23) (.t 22), none, []⟩] [0, 3, 4])))
   (.rgn false [⟨some 14, .mov (.t 0), none, []⟩,
    ⟨some 15, .bin .quo 0 (.t 14) (.c (.iv (.int .u64 (128)))), none, []⟩,
    ⟨some 0, .mov (.t 15), none, []⟩] [0, 3, 4]))))))
   (.seq (.rgn false [⟨some 24, .mov (.t 4), none, []⟩,
    ⟨some 25, .sla 10 (.t 3) (some (.t 24)) none, none, []⟩,
    ⟨some 26, .cvb (.t 25), none, []⟩,
    ⟨some 2, .mov (.t 26), none, []⟩] [2])
   (.ret)))))), none⟩
/-- arbour/flood.New -/
def F220 : IFn := ⟨1, [.t 2, .t 3],
   .seq (.rgn false [⟨some 1, .box 0 (.t 0), none, []⟩,
    ⟨some 2, .mov (.c (.iv (.nilp))), none, []⟩,
    ⟨some 3, .mov (.c (.iv (.int .i64 (0)))), none, []⟩] [1])
   (.seq (.seq (.rgn false [⟨some 6, .load true 4 (.t 1), none, []⟩,
    ⟨some 7, .call 0 (.c (.iv (.fn 131 []))) [.t 6], none, []⟩,
    ⟨some 4, .mov (.t 7), none, []⟩] [1, 4])
   (.seq (.rgn false [⟨some 8, .mov (.t 4), none, []⟩,
    ⟨some 9, .bin .neq 0 (.t 8) (.c (.iv (.int .i64 (0)))), none, []⟩] [1, 4, 9])
   (.cond (.t 9) (.seq (.rgn false [⟨some 10, .mov (.t 4), none, []⟩,
    ⟨some 2, .mov (.c (.iv (.nilp))), none, []⟩,
    ⟨some 3, .mov (.t 10), none, []⟩] [2, 3])
   (.ret))
   (.skip))))
   (.seq (.rgn true [⟨some 11, .load true 4 (.t 1), none, []⟩,
    ⟨some 12, .load true 4 (.t 1), none, []⟩,
    ⟨some 13, .scall (.c (.iv (.fn 222 []))) [.t 12], none, [1]⟩,
    ⟨some 14, .build [.iv (.nsl 1), .iv (.nsl 1), .iv (.int .i64 0), .iv (.int .u64 0), .iv (.nsl 1), .iv .nilp, .iv (.int .i64 0), .iv (.int .i64 0), .iv (.nsl 3)] [(0, 4, .t 11), (5, 1, .t 13)], none, [0, 1, 2]⟩,
    ⟨some 15, .box 0 (.t 14), none, [0, 1, 2, 3]⟩,
    ⟨some 5, .mov (.t 15), none, [0, 1, 2, 3, 4]⟩] [1, 5])
   (.seq (.seq (.rgn false [⟨some 16, .fadr 1 (.t 1), none, []⟩,
    ⟨some 17, .load false 1 (.t 16), none, []⟩,
    ⟨some 18, .len false (.t 17), none, []⟩,
    ⟨some 19, .mov (.c (.iv (.int .i64 (0)))), none, []⟩] [5, 18, 19])
   (.block 0 (.loop [5, 18, 19] (.seq (.rgn false [⟨some 20, .bin .lss 0 (.t 19) (.t 18), none, []⟩] [5, 18, 19, 20])
   (.seq (.cond (.t 20) (.skip)
   (.exit 0))
   (.seq (.block 1 (.rgn true [⟨some 21, .mov (.t 5), none, []⟩,
    ⟨some 22, .mov (.t 5), none, []⟩,
    ⟨some 23, .nchk (.t 22), none, [1]⟩,
    ⟨some 24, .fadr 4 (.t 23), none, [1, 2]⟩,
    ⟨some 25, .load false 1 (.t 24), none, [1, 2, 3]⟩,
    ⟨some 26, .scall (.c (.iv (.fn 221 []))) [], none, []⟩,
    ⟨some 27, .bsl 1 [.iv .nilp] 1 [(0, .t 26)], none, [5]⟩,
    ⟨some 28, .app 1 false (.t 25) (.t 27), none, [1, 2, 3, 4, 5, 6]⟩,
    ⟨some 29, .nchk (.t 21), none, [0, 1, 2, 3, 4, 5, 6, 7]⟩,
    ⟨some 30, .fadr 4 (.t 29), none, [0, 1, 2, 3, 4, 5, 6, 7, 8]⟩,
    ⟨none, .store 1 (.t 30) (.t 28), none, [0, 1, 2, 3, 4, 5, 6, 7, 8, 9]⟩] [5, 18, 19]))
   (.rgn false [⟨some 31, .bin .add 0 (.t 19) (.c (.iv (.int .i64 (1)))), none, []⟩,
    ⟨some 19, .mov (.t 31), none, []⟩] [5, 18, 19])))))))
   (.seq (.rgn false [⟨some 32, .mov (.t 5), none, []⟩,
    ⟨some 2, .mov (.t 32), none, []⟩,
    ⟨some 3, .mov (.c (.iv (.int .i64 (0)))), none, []⟩] [2, 3])
   (.ret))))), none⟩
/-- arbour/frame.Print -/
def F262 : IFn := ⟨1, [.t 2, .t 3],
   .seq (.rgn false [⟨some 1, .box 0 (.t 0), none, []⟩,
    ⟨some 2, .mov (.c (.iv (.str ⟨#[]⟩))), none, []⟩,
    ⟨some 3, .mov (.c (.iv (.int .i64 (0)))), none, []⟩] [1])
   (.seq (.seq (.rgn false [⟨some 7, .scall (.c (.iv (.fn 242 []))) [.t 1], none, []⟩,
    ⟨some 8, .un .not (.t 7), none, []⟩] [1, 8])
   (.cond (.t 8) (.seq (.rgn false [⟨some 2, .mov (.c (.iv (.str ⟨#[]⟩))), none, []⟩,
    ⟨some 3, .mov (.c (.iv (.int .i64 (1)))), none, []⟩] [2, 3])
   (.ret))
   (.skip)))
   (.seq (.rgn false [⟨some 9, .build [.iv .nilp, .iv (.nsl 1)] [], none, []⟩,
    ⟨some 10, .box 1 (.t 9), none, []⟩,
    ⟨some 4, .mov (.t 10), none, []⟩] [1, 4])
   (.seq (.seq (.rgn false [⟨some 11, .fadr 0 (.t 1), none, []⟩,
    ⟨some 12, .load false 1 (.t 11), none, []⟩] [1, 4, 12])
   (.cond (.t 12) (.seq (.rgn false [⟨some 13, .mov (.t 4), none, []⟩,
    ⟨some 14, .scall (.c (.iv (.fn 268 []))) [.t 13, .c (.iv (.int .u8 (1)))], none, []⟩] [1, 4])
   (.seq (.rgn false [⟨some 15, .mov (.t 4), none, []⟩,
    ⟨some 16, .fadr 3 (.t 1), none, []⟩,
    ⟨some 17, .fadr 0 (.t 16), none, []⟩,
    ⟨some 18, .load false 1 (.t 17), none, []⟩,
    ⟨some 19, .fadr 3 (.t 1), none, []⟩,
    ⟨some 20, .fadr 1 (.t 19), none, []⟩,
    ⟨some 21, .load false 1 (.t 20), none, []⟩,
    ⟨some 22, .bsl 1 [.iv (.int .i64 0)] 2 [(0, .t 18), (1, .t 21)], none, []⟩,
    ⟨some 23, .scall (.c (.iv (.fn 264 []))) [.t 15, .t 22], none, []⟩] [1, 4])
   (.seq (.rgn false [⟨some 24, .mov (.t 4), none, []⟩,
    ⟨some 25, .fadr 3 (.t 1), none, []⟩,
    ⟨some 26, .fadr 2 (.t 25), none, []⟩,
    ⟨some 27, .load true 12 (.t 26), none, []⟩,
    ⟨some 28, .scall (.c (.iv (.fn 269 []))) [.t 27], none, []⟩,
    ⟨some 29, .scall (.c (.iv (.fn 267 []))) [.t 24, .t 28], none, []⟩] [4])
   (.seq (.rgn false [⟨some 30, .mov (.t 4), none, []⟩,
    ⟨some 31, .scall (.c (.iv (.fn 263 []))) [.t 30], none, []⟩,
    ⟨some 2, .mov (.t 31), none, []⟩,
    ⟨some 3, .mov (.c (.iv (.int .i64 (0)))), none, []⟩] [2, 3])
   (.ret)))))
   (.skip)))
   (.seq (.rgn false [⟨some 32, .mov (.t 4), none, []⟩,
    ⟨some 33, .scall (.c (.iv (.fn 268 []))) [.t 32, .c (.iv (.int .u8 (0)))], none, []⟩] [1, 4])
   (.seq (.rgn false [⟨some 34, .mov (.t 4), none, []⟩,
    ⟨some 35, .fadr 1 (.t 1), none, []⟩,
    ⟨some 36, .fadr 0 (.t 35), none, []⟩,
    ⟨some 37, .load false 1 (.t 36), none, []⟩,
    ⟨some 38, .len false (.t 37), none, []⟩,
    ⟨some 39, .bsl 1 [.iv (.int .i64 0)] 1 [(0, .t 38)], none, []⟩,
    ⟨some 40, .scall (.c (.iv (.fn 264 []))) [.t 34, .t 39], none, []⟩] [1, 4])
   (.seq (.seq (.rgn false [⟨some 41, .fadr 1 (.t 1), none, []⟩,
    ⟨some 42, .fadr 0 (.t 41), none, []⟩,
    ⟨some 43, .load false 1 (.t 42), none, []⟩,
    ⟨some 44, .len false (.t 43), none, []⟩,
    ⟨some 45, .mov (.c (.iv (.int .i64 (0)))), none, []⟩] [1, 4, 43, 44, 45])
   (.block 0 (.loop [1, 4, 43, 44, 45] (.seq (.rgn false [⟨some 46, .bin .lss 0 (.t 45) (.t 44), none, []⟩] [1, 4, 43, 44, 45, 46])
   (.seq (.cond (.t 46) (.skip)
   (.exit 0))
   (.seq (.block 1 (.seq (.rgn false [⟨some 47, .isl 3 (.t 43) (.t 45), none, []⟩,
    ⟨some 48, .load true 3 (.t 47), none, []⟩,
    ⟨some 6, .alloc 0 [.iv (.int .i64 0), .iv (.nsl 16), .iv (.int .u64 0)], none, []⟩,
    ⟨none, .store 3 (.t 6) (.t 48), none, []⟩] [1, 4, 6, 43, 44, 45])
   (.seq (.rgn false [⟨some 49, .mov (.t 4), none, []⟩,
    ⟨some 50, .fadr 0 (.t 6), none, []⟩,
    ⟨some 51, .load false 1 (.t 50), none, []⟩,
    ⟨some 52, .bsl 1 [.iv (.int .i64 0)] 1 [(0, .t 51)], none, []⟩,
    ⟨some 53, .scall (.c (.iv (.fn 264 []))) [.t 49, .t 52], none, []⟩] [1, 4, 6, 43, 44, 45])
   (.rgn true [⟨some 54, .mov (.t 4), none, []⟩,
    ⟨some 55, .fadr 2 (.t 6), none, []⟩,
    ⟨some 56, .load false 1 (.t 55), none, [1]⟩,
    ⟨some 57, .scall (.c (.iv (.fn 265 []))) [.t 56], none, [1, 2]⟩,
    ⟨some 58, .fadr 1 (.t 6), none, []⟩,
    ⟨some 59, .load false 1 (.t 58), none, [4]⟩,
    ⟨some 60, .scall (.c (.iv (.fn 266 []))) [.t 59], none, [1, 2, 3, 4, 5]⟩,
    ⟨some 61, .bin .add 0 (.t 57) (.t 60), none, [1, 2, 3, 4, 5, 6]⟩,
    ⟨some 62, .scall (.c (.iv (.fn 267 []))) [.t 54, .t 61], none, [0, 1, 2, 3, 4, 5, 6, 7]⟩] [1, 4, 43, 44, 45]))))
   (.rgn false [⟨some 63, .bin .add 0 (.t 45) (.c (.iv (.int .i64 (1)))), none, []⟩,
    ⟨some 45, .mov (.t 63), none, []⟩] [1, 4, 43, 44, 45])))))))
   (.seq (.rgn false [⟨some 64, .mov (.t 4), none, []⟩,
    ⟨some 65, .fadr 1 (.t 1), none, []⟩,
    ⟨some 66, .fadr 1 (.t 65), none, []⟩,
    ⟨some 67, .load false 1 (.t 66), none, []⟩,
    ⟨some 68, .len false (.t 67), none, []⟩,
    ⟨some 69, .bsl 1 [.iv (.int .i64 0)] 1 [(0, .t 68)], none, []⟩,
    ⟨some 70, .scall (.c (.iv (.fn 264 []))) [.t 64, .t 69], none, []⟩] [1, 4])
   (.seq (.rgn false [⟨some 71, .mov (.t 4), none, []⟩,
    ⟨some 72, .fadr 1 (.t 1), none, []⟩,
    ⟨some 73, .fadr 1 (.t 72), none, []⟩,
    ⟨some 74, .load false 1 (.t 73), none, []⟩,
    ⟨some 75, .scall (.c (.iv (.fn 264 []))) [.t 71, .t 74], none, []⟩] [4])
   (.seq (.rgn false [⟨some 76, .mov (.t 4), none, []⟩,
    ⟨some 77, .scall (.c (.iv (.fn 263 []))) [.t 76], none, []⟩,
    ⟨some 2, .mov (.t 77), none, []⟩,
    ⟨some 3, .mov (.c (.iv (.int .i64 (0)))), none, []⟩] [2, 3])
   (.ret)))))))))), none⟩
/-- arbour/frame.Read -/
def F239 : IFn := ⟨1, [.cell 2 true 17, .t 3],
   .seq (.rgn false [⟨some 2, .alloc 0 [.iv (.bool false), .iv (.nsl 3), .iv (.nsl 1), .iv (.int .i64 0), .iv (.int .i64 0), .iv (.int .i64 0), .iv (.int .i64 0), .iv (.str ⟨#[]⟩), .iv (.int .i64 0), .iv (.int .i64 0), .iv (.str ⟨#[]⟩), .iv (.int .i64 0), .iv (.int .i64 0), .iv (.str ⟨#[]⟩), .iv (.int .i64 0), .iv (.int .i64 0), .iv (.str ⟨#[]⟩)], none, []⟩,
    ⟨some 3, .mov (.c (.iv (.int .i64 (0)))), none, []⟩] [0, 2])
   (.seq (.rgn false [⟨some 4, .alloc 0 [.iv (.bool false), .iv (.nsl 3), .iv (.nsl 1), .iv (.int .i64 0), .iv (.int .i64 0), .iv (.int .i64 0), .iv (.int .i64 0), .iv (.str ⟨#[]⟩), .iv (.int .i64 0), .iv (.int .i64 0), .iv (.str ⟨#[]⟩), .iv (.int .i64 0), .iv (.int .i64 0), .iv (.str ⟨#[]⟩), .iv (.int .i64 0), .iv (.int .i64 0), .iv (.str ⟨#[]⟩)], none, []⟩] [0, 2, 4])
   (.seq (.rgn false [⟨some 6, .mov (.t 0), none, []⟩,
    ⟨some 7, .scall (.c (.iv (.fn 248 []))) [.t 6], none, []⟩,
    ⟨some 5, .mov (.t 7), none, []⟩] [2, 4, 5])
   (.seq (.seq (.rgn false [⟨some 8, .mov (.t 5), none, []⟩,
    ⟨some 9, .scall (.c (.iv (.fn 247 []))) [.t 8], none, []⟩] [2, 4, 5, 9])
   (.block 0 (.seq (.rgn false [⟨some 13, .bin .eql 0 (.t 9) (.c (.iv (.int .u8 (0)))), none, []⟩,
    ⟨some 12, .mov (.t 13), none, []⟩] [2, 4, 5, 9, 12])
   (.cond (.t 12) (.rgn false [⟨some 14, .mov (.t 5), none, []⟩,
    ⟨some 15, .scall (.c (.iv (.fn 243 []))) [.t 14], none, []⟩,
    ⟨some 16, .fadr 1 (.t 4), none, []⟩,
    ⟨none, .store 2 (.t 16) (.t 15), none, []⟩] [2, 4, 5])
   (.seq (.rgn false [⟨some 18, .bin .eql 0 (.t 9) (.c (.iv (.int .u8 (1)))), none, []⟩,
    ⟨some 17, .mov (.t 18), none, []⟩] [2, 4, 5, 17])
   (.cond (.t 17) (.seq (.rgn false [⟨some 19, .fadr 0 (.t 4), none, []⟩,
    ⟨none, .store 1 (.t 19) (.c (.iv (.bool true))), none, []⟩] [2, 4, 5])
   (.seq (.rgn false [⟨some 20, .mov (.t 5), none, []⟩,
    ⟨some 21, .scall (.c (.iv (.fn 245 []))) [.t 20], none, []⟩,
    ⟨some 22, .mov (.t 5), none, []⟩,
    ⟨some 23, .scall (.c (.iv (.fn 245 []))) [.t 22], none, []⟩,
    ⟨some 24, .build [.iv (.int .i64 0), .iv (.int .i64 0), .iv (.int .i64 0), .iv (.int .i64 0), .iv (.str ⟨#[]⟩), .iv (.int .i64 0), .iv (.int .i64 0), .iv (.str ⟨#[]⟩), .iv (.int .i64 0), .iv (.int .i64 0), .iv (.str ⟨#[]⟩), .iv (.int .i64 0), .iv (.int .i64 0), .iv (.str ⟨#[]⟩)] [(0, 1, .t 21), (1, 1, .t 23)], none, []⟩,
    ⟨some 25, .fadr 3 (.t 4), none, []⟩,
    ⟨none, .store 14 (.t 25) (.t 24), none, []⟩] [2, 4, 5])
   (.rgn false [⟨some 26, .mov (.t 5), none, []⟩,
    ⟨some 27, .scall (.c (.iv (.fn 244 []))) [.t 26], none, []⟩,
    ⟨some 28, .fadr 3 (.t 4), none, []⟩,
    ⟨some 29, .fadr 2 (.t 28), none, []⟩,
    ⟨none, .store 12 (.t 29) (.t 27), none, []⟩] [2, 4, 5])))
   (.rgn false [⟨some 10, .mov (.t 5), none, []⟩,
    ⟨some 11, .scall (.c (.iv (.fn 246 []))) [.t 10, .c (.iv (.int .i64 (2)))], none, []⟩] [2, 4, 5])))))))
   (.seq (.seq (.rgn false [⟨some 30, .mov (.t 5), none, []⟩,
    ⟨some 31, .scall (.c (.iv (.fn 240 []))) [.t 30], none, []⟩,
    ⟨some 32, .bin .neq 0 (.t 31) (.c (.iv (.int .i64 (0)))), none, []⟩,
    ⟨some 33, .mov (.t 32), none, []⟩,
    ⟨some 34, .mov (.t 5), some (33, false), []⟩,
    ⟨some 35, .scall (.c (.iv (.fn 241 []))) [.t 34], some (33, false), []⟩,
    ⟨some 36, .bin .gtr 0 (.t 35) (.c (.iv (.int .i64 (0)))), some (33, false), []⟩,
    ⟨some 37, .pick (.t 33) (.c (.iv (.bool true))) (.t 36), none, []⟩,
    ⟨some 38, .mov (.t 37), none, []⟩,
    ⟨some 39, .scall (.c (.iv (.fn 242 []))) [.t 4], some (38, false), []⟩,
    ⟨some 40, .un .not (.t 39), some (38, false), []⟩,
    ⟨some 41, .pick (.t 38) (.c (.iv (.bool true))) (.t 40), none, []⟩] [2, 4, 41])
   (.cond (.t 41) (.seq (.rgn false [⟨some 42, .build [.iv (.bool false), .iv (.nsl 3), .iv (.nsl 1), .iv (.int .i64 0), .iv (.int .i64 0), .iv (.int .i64 0), .iv (.int .i64 0), .iv (.str ⟨#[]⟩), .iv (.int .i64 0), .iv (.int .i64 0), .iv (.str ⟨#[]⟩), .iv (.int .i64 0), .iv (.int .i64 0), .iv (.str ⟨#[]⟩), .iv (.int .i64 0), .iv (.int .i64 0), .iv (.str ⟨#[]⟩)] [], none, []⟩,
    ⟨none, .store 17 (.t 2) (.t 42), none, []⟩,
    ⟨some 3, .mov (.c (.iv (.int .i64 (2)))), none, []⟩] [2, 3])
   (.ret))
   (.skip)))
   (.seq (.rgn false [⟨some 43, .load true 17 (.t 4), none, []⟩,
    ⟨none, .store 17 (.t 2) (.t 43), none, []⟩,
    ⟨some 3, .mov (.c (.iv (.int .i64 (0)))), none, []⟩] [2, 3])
   (.ret)))))), none⟩
/-- arbour/frame.count -/
def F251 : IFn := ⟨1, [.t 2],
   .seq (.rgn false [⟨some 2, .mov (.c (.iv (.bool false))), none, []⟩] [0])
   (.seq (.rgn false [⟨some 3, .mov (.t 0), none, []⟩,
    ⟨some 4, .bin .geq 0 (.t 3) (.c (.iv (.int .i64 (0)))), none, []⟩,
    ⟨some 5, .mov (.t 4), none, []⟩,
    ⟨some 6, .mov (.t 0), some (5, true), []⟩,
    ⟨some 7, .bin .leq 0 (.t 6) (.c (.iv (.int .i64 (1099511627776)))), some (5, true), []⟩,
    ⟨some 8, .pick (.t 5) (.t 7) (.c (.iv (.bool false))), none, []⟩,
    ⟨some 2, .mov (.t 8), none, []⟩] [2])
   (.ret)), none⟩
/-- arbour/frame.may -/
def F242 : IFn := ⟨1, [.t 2],
   .seq (.rgn false [⟨some 2, .mov (.c (.iv (.bool false))), none, []⟩] [0])
   (.seq (.seq (.rgn false [⟨some 5, .mov (.t 0), none, []⟩,
    ⟨some 6, .nchk (.t 5), none, []⟩,
    ⟨some 7, .fadr 0 (.t 6), none, []⟩,
    ⟨some 8, .load false 1 (.t 7), none, []⟩] [0, 8])
   (.cond (.t 8) (.seq (.rgn true [⟨some 9, .mov (.t 0), none, []⟩,
    ⟨some 10, .nchk (.t 9), none, [0]⟩,
    ⟨some 11, .fadr 3 (.t 10), none, [0, 1]⟩,
    ⟨some 12, .fadr 0 (.t 11), none, [0, 1, 2]⟩,
    ⟨some 13, .load false 1 (.t 12), none, [0, 1, 2, 3]⟩,
    ⟨some 14, .scall (.c (.iv (.fn 251 []))) [.t 13], none, [0, 1, 2, 3, 4]⟩,
    ⟨some 15, .mov (.t 14), none, [0, 1, 2, 3, 4, 5]⟩,
    ⟨some 16, .mov (.t 0), some (15, true), [0, 1, 2, 3, 4, 5, 6]⟩,
    ⟨some 17, .nchk (.t 16), some (15, true), [0, 1, 2, 3, 4, 5, 6, 7]⟩,
    ⟨some 18, .fadr 3 (.t 17), some (15, true), [0, 1, 2, 3, 4, 5, 6, 7, 8]⟩,
    ⟨some 19, .fadr 1 (.t 18), some (15, true), [0, 1, 2, 3, 4, 5, 6, 7, 8, 9]⟩,
    ⟨some 20, .load false 1 (.t 19), some (15, true), [0, 1, 2, 3, 4, 5, 6, 7, 8, 9, 10]⟩,
    ⟨some 21, .scall (.c (.iv (.fn 251 []))) [.t 20], some (15, true), [0, 1, 2, 3, 4, 5, 6, 7, 8, 9, 10, 11]⟩,
    ⟨some 22, .pick (.t 15) (.t 21) (.c (.iv (.bool false))), none, [0, 1, 2, 3, 4, 5, 6, 7, 8, 9, 10, 11, 12]⟩,
    ⟨some 23, .mov (.t 22), none, [0, 1, 2, 3, 4, 5, 6, 7, 8, 9, 10, 11, 12, 13]⟩,
    ⟨some 24, .mov (.t 0), some (23, true), [0, 1, 2, 3, 4, 5, 6, 7, 8, 9, 10, 11, 12, 13, 14]⟩,
    ⟨some 25, .nchk (.t 24), some (23, true), [0, 1, 2, 3, 4, 5, 6, 7, 8, 9, 10, 11, 12, 13, 14, 15]⟩,
    ⟨some 26, .fadr 3 (.t 25), some (23, true), [0, 1, 2, 3, 4, 5, 6, 7, 8, 9, 10, 11, 12, 13, 14, 15, 16]⟩,
    ⟨some 27, .fadr 2 (.t 26), some (23, true), [0, 1, 2, 3, 4, 5, 6, 7, 8, 9, 10, 11, 12, 13, 14, 15, 16, 17]⟩,
    ⟨some 28, .load true 12 (.t 27), some (23, true), [0, 1, 2, 3, 4, 5, 6, 7, 8, 9, 10, 11, 12, 13, 14, 15, 16, 17, 18]⟩,
    ⟨some 29, .call 0 (.c (.iv (.fn 137 []))) [.t 28], some (23, true), [0, 1, 2, 3, 4, 5, 6, 7, 8, 9, 10, 11, 12, 13, 14, 15, 16, 17, 18, 19]⟩,
    ⟨some 30, .pick (.t 23) (.t 29) (.c (.iv (.bool false))), none, [0, 1, 2, 3, 4, 5, 6, 7, 8, 9, 10, 11, 12, 13, 14, 15, 16, 17, 18, 19, 20]⟩,
    ⟨some 31, .mov (.t 30), none, [0, 1, 2, 3, 4, 5, 6, 7, 8, 9, 10, 11, 12, 13, 14, 15, 16, 17, 18, 19, 20, 21]⟩,
    ⟨some 32, .mov (.t 0), some (31, true), [0, 1, 2, 3, 4, 5, 6, 7, 8, 9, 10, 11, 12, 13, 14, 15, 16, 17, 18, 19, 20, 21, 22]⟩,
    ⟨some 33, .nchk (.t 32), some (31, true), [0, 1, 2, 3, 4, 5, 6, 7, 8, 9, 10, 11, 12, 13, 14, 15, 16, 17, 18, 19, 20, 21, 22, 23]⟩,
    ⟨some 34, .fadr 1 (.t 33), some (31, true), [0, 1, 2, 3, 4, 5, 6, 7, 8, 9, 10, 11, 12, 13, 14, 15, 16, 17, 18, 19, 20, 21, 22, 23, 24]⟩,
    ⟨some 35, .fadr 0 (.t 34), some (31, true), [0, 1, 2, 3, 4, 5, 6, 7, 8, 9, 10, 11, 12, 13, 14, 15, 16, 17, 18, 19, 20, 21, 22, 23, 24, 25]⟩,
    ⟨some 36, .load false 1 (.t 35), some (31, true), [0, 1, 2, 3, 4, 5, 6, 7, 8, 9, 10, 11, 12, 13, 14, 15, 16, 17, 18, 19, 20, 21, 22, 23, 24, 25, 26]⟩,
    ⟨some 37, .len false (.t 36), some (31, true), [0, 1, 2, 3, 4, 5, 6, 7, 8, 9, 10, 11, 12, 13, 14, 15, 16, 17, 18, 19, 20, 21, 22, 23, 24, 25, 26, 27]⟩,
    ⟨some 38, .mov (.t 0), some (31, true), [0, 1, 2, 3, 4, 5, 6, 7, 8, 9, 10, 11, 12, 13, 14, 15, 16, 17, 18, 19, 20, 21, 22]⟩,
    ⟨some 39, .nchk (.t 38), some (31, true), [0, 1, 2, 3, 4, 5, 6, 7, 8, 9, 10, 11, 12, 13, 14, 15, 16, 17, 18, 19, 20, 21, 22, 29]⟩,
    ⟨some 40, .fadr 1 (.t 39), some (31, true), [0, 1, 2, 3, 4, 5, 6, 7, 8, 9, 10, 11, 12, 13, 14, 15, 16, 17, 18, 19, 20, 21, 22, 29, 30]⟩,
    ⟨some 41, .fadr 1 (.t 40), some (31, true), [0, 1, 2, 3, 4, 5, 6, 7, 8, 9, 10, 11, 12, 13, 14, 15, 16, 17, 18, 19, 20, 21, 22, 29, 30, 31]⟩,
    ⟨some 42, .load false 1 (.t 41), some (31, true), [0, 1, 2, 3, 4, 5, 6, 7, 8, 9, 10, 11, 12, 13, 14, 15, 16, 17, 18, 19, 20, 21, 22, 29, 30, 31, 32]⟩,
    ⟨some 43, .len false (.t 42), some (31, true), [0, 1, 2, 3, 4, 5, 6, 7, 8, 9, 10, 11, 12, 13, 14, 15, 16, 17, 18, 19, 20, 21, 22, 29, 30, 31, 32, 33]⟩,
    ⟨some 44, .bin .add 0 (.t 37) (.t 43), some (31, true), [0, 1, 2, 3, 4, 5, 6, 7, 8, 9, 10, 11, 12, 13, 14, 15, 16, 17, 18, 19, 20, 21, 22, 23, 24, 25, 26, 27, 28, 29, 30, 31, 32, 33, 34]⟩,
    ⟨some 45, .bin .eql 0 (.t 44) (.c (.iv (.int .i64 (0)))), some (31, true), [0, 1, 2, 3, 4, 5, 6, 7, 8, 9, 10, 11, 12, 13, 14, 15, 16, 17, 18, 19, 20, 21, 22, 23, 24, 25, 26, 27, 28, 29, 30, 31, 32, 33, 34, 35]⟩,
    ⟨some 46, .pick (.t 31) (.t 45) (.c (.iv (.bool false))), none, [0, 1, 2, 3, 4, 5, 6, 7, 8, 9, 10, 11, 12, 13, 14, 15, 16, 17, 18, 19, 20, 21, 22, 23, 24, 25, 26, 27, 28, 29, 30, 31, 32, 33, 34, 35, 36]⟩,
    ⟨some 2, .mov (.t 46), none, [0, 1, 2, 3, 4, 5, 6, 7, 8, 9, 10, 11, 12, 13, 14, 15, 16, 17, 18, 19, 20, 21, 22, 23, 24, 25, 26, 27, 28, 29, 30, 31, 32, 33, 34, 35, 36, 37]⟩] [2])
   (.ret))
   (.skip)))
   (.seq (.seq (.rgn false [⟨some 47, .mov (.t 0), none, []⟩,
    ⟨some 48, .nchk (.t 47), none, []⟩,
    ⟨some 49, .fadr 1 (.t 48), none, []⟩,
    ⟨some 50, .fadr 0 (.t 49), none, []⟩,
    ⟨some 51, .load false 1 (.t 50), none, []⟩,
    ⟨some 52, .len false (.t 51), none, []⟩,
    ⟨some 53, .mov (.c (.iv (.int .i64 (0)))), none, []⟩] [0, 51, 52, 53])
   (.block 0 (.loop [0, 51, 52, 53] (.seq (.rgn false [⟨some 54, .bin .lss 0 (.t 53) (.t 52), none, []⟩] [0, 51, 52, 53, 54])
   (.seq (.cond (.t 54) (.skip)
   (.exit 0))
   (.seq (.block 1 (.seq (.rgn false [⟨some 55, .isl 3 (.t 51) (.t 53), none, []⟩,
    ⟨some 56, .load true 3 (.t 55), none, []⟩,
    ⟨some 4, .alloc 0 [.iv (.int .i64 0), .iv (.nsl 16), .iv (.int .u64 0)], none, []⟩,
    ⟨none, .store 3 (.t 4) (.t 56), none, []⟩] [0, 4, 51, 52, 53])
   (.seq (.rgn false [⟨some 57, .fadr 0 (.t 4), none, []⟩,
    ⟨some 58, .load false 1 (.t 57), none, []⟩,
    ⟨some 59, .scall (.c (.iv (.fn 251 []))) [.t 58], none, []⟩,
    ⟨some 60, .un .not (.t 59), none, []⟩,
    ⟨some 61, .mov (.t 60), none, []⟩,
    ⟨some 62, .fadr 1 (.t 4), some (61, false), []⟩,
    ⟨some 63, .load false 1 (.t 62), some (61, false), []⟩,
    ⟨some 64, .call 0 (.c (.iv (.fn 30 []))) [.t 63], some (61, false), []⟩,
    ⟨some 65, .un .not (.t 64), some (61, false), []⟩,
    ⟨some 66, .pick (.t 61) (.c (.iv (.bool true))) (.t 65), none, []⟩,
    ⟨some 67, .mov (.t 66), none, []⟩,
    ⟨some 68, .fadr 2 (.t 4), some (67, false), []⟩,
    ⟨some 69, .load false 1 (.t 68), some (67, false), []⟩,
    ⟨some 70, .bin .eql 0 (.t 69) (.c (.iv (.int .u64 (18446744073709551615)))), some (67, false), []⟩,
    ⟨some 71, .pick (.t 67) (.c (.iv (.bool true))) (.t 70), none, []⟩] [0, 51, 52, 53, 71])
   (.cond (.t 71) (.seq (.rgn false [⟨some 2, .mov (.c (.iv (.bool false))), none, []⟩] [2])
   (.ret))
   (.skip)))))
   (.rgn false [⟨some 72, .bin .add 0 (.t 53) (.c (.iv (.int .i64 (1)))), none, []⟩,
    ⟨some 53, .mov (.t 72), none, []⟩] [0, 51, 52, 53])))))))
   (.seq (.rgn false [⟨some 73, .mov (.t 0), none, []⟩,
    ⟨some 74, .nchk (.t 73), none, []⟩,
    ⟨some 75, .fadr 3 (.t 74), none, []⟩,
    ⟨some 76, .load true 14 (.t 75), none, []⟩,
    ⟨some 77, .build [.iv (.int .i64 0), .iv (.int .i64 0), .iv (.int .i64 0), .iv (.int .i64 0), .iv (.str ⟨#[]⟩), .iv (.int .i64 0), .iv (.int .i64 0), .iv (.str ⟨#[]⟩), .iv (.int .i64 0), .iv (.int .i64 0), .iv (.str ⟨#[]⟩), .iv (.int .i64 0), .iv (.int .i64 0), .iv (.str ⟨#[]⟩)] [], none, []⟩,
    ⟨some 78, .eqc false [0, 0, 0, 0, 2, 0, 0, 2, 0, 0, 2, 0, 0, 2] (.t 76) (.t 77), none, []⟩,
    ⟨some 79, .mov (.t 78), none, []⟩,
    ⟨some 80, .mov (.t 0), some (79, true), []⟩,
    ⟨some 81, .nchk (.t 80), some (79, true), []⟩,
    ⟨some 82, .fadr 1 (.t 81), some (79, true), []⟩,
    ⟨some 83, .fadr 1 (.t 82), some (79, true), []⟩,
    ⟨some 84, .load false 1 (.t 83), some (79, true), []⟩,
    ⟨some 85, .scall (.c (.iv (.fn 143 []))) [.t 84, .c (.iv (.fn 250 []))], some (79, true), []⟩,
    ⟨some 86, .un .not (.t 85), some (79, true), []⟩,
    ⟨some 87, .pick (.t 79) (.t 86) (.c (.iv (.bool false))), none, []⟩,
    ⟨some 2, .mov (.t 87), none, []⟩] [2])
   (.ret)))), none⟩
/-- arbour/frame.number -/
def F245 : IFn := ⟨1, [.t 2],
   .seq (.rgn false [⟨some 2, .mov (.c (.iv (.int .i64 (0)))), none, []⟩] [0])
   (.seq (.rgn false [⟨some 4, .mov (.t 0), none, []⟩,
    ⟨some 5, .scall (.c (.iv (.fn 249 []))) [.t 4], none, []⟩,
    ⟨some 3, .mov (.t 5), none, []⟩] [0, 3])
   (.seq (.seq (.rgn false [⟨some 6, .mov (.t 3), none, []⟩,
    ⟨some 7, .bin .gtr 0 (.t 6) (.c (.iv (.int .u64 (1099511627776)))), none, []⟩] [0, 3, 7])
   (.cond (.t 7) (.seq (.rgn false [⟨some 8, .mov (.t 0), none, []⟩,
    ⟨some 9, .scall (.c (.iv (.fn 246 []))) [.t 8, .c (.iv (.int .i64 (2)))], none, []⟩] [])
   (.seq (.rgn false [⟨some 2, .mov (.c (.iv (.int .i64 (0)))), none, []⟩] [2])
   (.ret)))
   (.skip)))
   (.seq (.rgn false [⟨some 10, .mov (.t 3), none, []⟩,
    ⟨some 11, .cvi .i64 (.t 10), none, []⟩,
    ⟨some 2, .mov (.t 11), none, []⟩] [2])
   (.ret)))), none⟩
/-- arbour/frame.nums -/
def F264 : IFn := ⟨2, [],
   .seq (.rgn false [⟨some 6, .mov (.t 1), none, []⟩,
    ⟨some 7, .len false (.t 6), none, []⟩,
    ⟨some 8, .mov (.c (.iv (.int .i64 (0)))), none, []⟩] [0, 6, 7, 8])
   (.block 0 (.loop [0, 6, 7, 8] (.seq (.rgn false [⟨some 9, .bin .lss 0 (.t 8) (.t 7), none, []⟩] [0, 6, 7, 8, 9])
   (.seq (.cond (.t 9) (.skip)
   (.exit 0))
   (.seq (.block 1 (.seq (.rgn false [⟨some 10, .isl 1 (.t 6) (.t 8), none, []⟩,
    ⟨some 11, .load false 1 (.t 10), none, []⟩,
    ⟨some 5, .mov (.t 11), none, []⟩] [0, 5, 6, 7, 8])
   (.rgn false [⟨some 12, .mov (.t 0), none, []⟩,
    ⟨some 13, .mov (.t 5), none, []⟩,
    ⟨some 14, .cvi .u64 (.t 13), none, []⟩,
    ⟨some 15, .scall (.c (.iv (.fn 265 []))) [.t 14], none, []⟩,
    ⟨some 16, .scall (.c (.iv (.fn 267 []))) [.t 12, .t 15], none, []⟩] [0, 6, 7, 8])))
   (.rgn false [⟨some 17, .bin .add 0 (.t 8) (.c (.iv (.int .i64 (1)))), none, []⟩,
    ⟨some 8, .mov (.t 17), none, []⟩] [0, 6, 7, 8])))))), none⟩
/-- arbour/link.New -/
def F222 : IFn := ⟨1, [.t 2],
   .seq (.rgn false [⟨some 1, .box 0 (.t 0), none, []⟩,
    ⟨some 2, .mov (.c (.iv (.nilp))), none, []⟩] [1])
   (.seq (.rgn false [⟨some 6, .load true 4 (.t 1), none, []⟩,
    ⟨some 7, .call 3 (.c (.iv (.fn 132 []))) [.t 6], none, []⟩,
    ⟨some 8, .mmk, none, []⟩,
    ⟨some 9, .build [.iv (.nsl 2), .nul 2, .iv (.int .i64 0), .iv (.int .i64 0)] [(0, 1, .t 7), (1, 1, .t 8)], none, []⟩,
    ⟨some 10, .box 0 (.t 9), none, []⟩,
    ⟨some 3, .mov (.t 10), none, []⟩] [3])
   (.seq (.seq (.rgn false [⟨some 11, .mov (.t 3), none, []⟩,
    ⟨some 12, .nchk (.t 11), none, []⟩,
    ⟨some 13, .fadr 0 (.t 12), none, []⟩,
    ⟨some 14, .load false 1 (.t 13), none, []⟩,
    ⟨some 15, .len false (.t 14), none, []⟩,
    ⟨some 16, .mov (.c (.iv (.int .i64 (0)))), none, []⟩] [3, 14, 15, 16])
   (.block 0 (.loop [3, 14, 15, 16] (.seq (.rgn false [⟨some 17, .bin .lss 0 (.t 16) (.t 15), none, []⟩] [3, 14, 15, 16, 17])
   (.seq (.cond (.t 17) (.skip)
   (.exit 0))
   (.seq (.block 1 (.seq (.rgn false [⟨some 18, .isl 2 (.t 14) (.t 16), none, []⟩,
    ⟨some 19, .load true 2 (.t 18), none, []⟩,
    ⟨some 5, .alloc 0 [.iv (.int .i64 0), .iv (.int .i64 0)], none, []⟩,
    ⟨none, .store 2 (.t 5) (.t 19), none, []⟩] [3, 5, 14, 15, 16])
   (.rgn true [⟨some 20, .mov (.t 3), none, []⟩,
    ⟨some 21, .nchk (.t 20), none, [0]⟩,
    ⟨some 22, .fadr 1 (.t 21), none, [0, 1]⟩,
    ⟨some 23, .load false 1 (.t 22), none, [0, 1, 2]⟩,
    ⟨some 24, .load true 2 (.t 5), none, []⟩,
    ⟨none, .mput [0, 0] (.t 23) (.t 24) (.c (.iv (.nsl 1))), none, [0, 1, 2, 3, 4]⟩] [3, 14, 15, 16])))
   (.rgn false [⟨some 25, .bin .add 0 (.t 16) (.c (.iv (.int .i64 (1)))), none, []⟩,
    ⟨some 16, .mov (.t 25), none, []⟩] [3, 14, 15, 16])))))))
   (.seq (.rgn false [⟨some 26, .mov (.t 3), none, []⟩,
    ⟨some 2, .mov (.t 26), none, []⟩] [2])
   (.ret)))), none⟩
/-- arbour/session.New -/
def F221 : IFn := ⟨0, [.t 0],
   .seq (.rgn false [⟨some 0, .mov (.c (.iv (.nilp))), none, []⟩] [])
   (.seq (.rgn false [⟨some 1, .mmk, none, []⟩,
    ⟨some 2, .build [.iv (.int .i64 0), .iv (.nsl 3), .nul 2, .iv (.nsl 1)] [(2, 1, .t 1)], none, []⟩,
    ⟨some 3, .box 0 (.t 2), none, []⟩,
    ⟨some 0, .mov (.t 3), none, []⟩] [0])
   (.ret)), none⟩
/-- arbour/wire.PutEvent -/
def F269 : IFn := ⟨1, [.t 2],
   .seq (.rgn false [⟨some 1, .box 0 (.t 0), none, []⟩,
    ⟨some 2, .mov (.c (.iv (.str ⟨#[]⟩))), none, []⟩] [1])
   (.seq (.rgn false [⟨some 6, .build [.iv .nilp, .iv (.nsl 1)] [], none, []⟩,
    ⟨some 7, .box 1 (.t 6), none, []⟩,
    ⟨some 3, .mov (.t 7), none, []⟩] [1, 3])
   (.seq (.seq (.rgn false [⟨some 8, .load true 12 (.t 1), none, []⟩,
    ⟨some 9, .mov (.c (.iv (.int .i64 (0)))), none, []⟩] [3, 8, 9])
   (.block 0 (.loop [3, 8, 9] (.seq (.rgn false [⟨some 10, .bin .lss 0 (.t 9) (.c (.iv (.int .i64 (4)))), none, []⟩] [3, 8, 9, 10])
   (.seq (.cond (.t 10) (.skip)
   (.exit 0))
   (.seq (.block 1 (.seq (.rgn false [⟨some 11, .xarr true 4 3 (.t 8) (.t 9), none, []⟩,
    ⟨some 5, .alloc 0 [.iv (.int .i64 0), .iv (.int .i64 0), .iv (.str ⟨#[]⟩)], none, []⟩,
    ⟨none, .store 3 (.t 5) (.t 11), none, []⟩] [3, 5, 8, 9])
   (.seq (.rgn false [⟨some 12, .mov (.t 3), none, []⟩,
    ⟨some 13, .fadr 0 (.t 5), none, []⟩,
    ⟨some 14, .load false 1 (.t 13), none, []⟩,
    ⟨some 15, .cvi .u8 (.t 14), none, []⟩,
    ⟨some 16, .scall (.c (.iv (.fn 268 []))) [.t 12, .t 15], none, []⟩] [3, 5, 8, 9])
   (.seq (.rgn false [⟨some 17, .fadr 0 (.t 5), none, []⟩,
    ⟨some 18, .load false 1 (.t 17), none, []⟩] [3, 5, 8, 9, 18])
   (.block 2 (.seq (.rgn false [⟨some 20, .bin .eql 0 (.t 18) (.c (.iv (.int .i64 (1)))), none, []⟩,
    ⟨some 19, .mov (.t 20), none, []⟩] [3, 5, 8, 9, 18, 19])
   (.cond (.t 19) (.rgn false [⟨some 21, .mov (.t 3), none, []⟩,
    ⟨some 22, .fadr 1 (.t 5), none, []⟩,
    ⟨some 23, .load false 1 (.t 22), none, []⟩,
    ⟨some 24, .scall (.c (.iv (.fn 270 []))) [.t 23], none, []⟩,
    ⟨some 25, .scall (.c (.iv (.fn 267 []))) [.t 21, .t 24], none, []⟩] [3, 8, 9])
   (.seq (.rgn false [⟨some 27, .bin .eql 0 (.t 18) (.c (.iv (.int .i64 (2)))), none, []⟩,
    ⟨some 26, .mov (.t 27), none, []⟩] [3, 5, 8, 9, 26])
   (.cond (.t 26) (.rgn false [⟨some 28, .mov (.t 3), none, []⟩,
    ⟨some 29, .fadr 2 (.t 5), none, []⟩,
    ⟨some 30, .load false 1 (.t 29), none, []⟩,
    ⟨some 31, .scall (.c (.iv (.fn 271 []))) [.t 30], none, []⟩,
    ⟨some 32, .scall (.c (.iv (.fn 267 []))) [.t 28, .t 31], none, []⟩] [3, 8, 9])
   (.skip))))))))))
   (.rgn false [⟨some 33, .bin .add 0 (.t 9) (.c (.iv (.int .i64 (1)))), none, []⟩,
    ⟨some 9, .mov (.t 33), none, []⟩] [3, 8, 9])))))))
   (.seq (.rgn false [⟨some 34, .mov (.t 3), none, []⟩,
    ⟨some 35, .scall (.c (.iv (.fn 263 []))) [.t 34], none, []⟩,
    ⟨some 2, .mov (.t 35), none, []⟩] [2])
   (.ret)))), none⟩
/-- arbour/wire.TakeEvent -/
def F244 : IFn := ⟨1, [.cell 2 true 12],
   .seq (.rgn false [⟨some 2, .alloc 0 [.iv (.int .i64 0), .iv (.int .i64 0), .iv (.str ⟨#[]⟩), .iv (.int .i64 0), .iv (.int .i64 0), .iv (.str ⟨#[]⟩), .iv (.int .i64 0), .iv (.int .i64 0), .iv (.str ⟨#[]⟩), .iv (.int .i64 0), .iv (.int .i64 0), .iv (.str ⟨#[]⟩)], none, []⟩] [0, 2])
   (.seq (.seq (.rgn false [⟨some 5, .mov (.c (.iv (.int .i64 (0)))), none, []⟩] [0, 2, 5])
   (.block 0 (.loop [0, 2, 5] (.seq (.rgn false [⟨some 6, .bin .lss 0 (.t 5) (.c (.iv (.int .i64 (4)))), none, []⟩] [0, 2, 5, 6])
   (.seq (.cond (.t 6) (.skip)
   (.exit 0))
   (.seq (.block 1 (.seq (.rgn false [⟨some 7, .mov (.t 5), none, []⟩,
    ⟨some 3, .mov (.t 7), none, []⟩] [0, 2, 3, 5])
   (.seq (.rgn false [⟨some 8, .mov (.t 3), none, []⟩,
    ⟨some 9, .iarr 4 3 (.t 2) (.t 8), none, []⟩,
    ⟨some 4, .mov (.t 9), none, []⟩] [0, 2, 4, 5])
   (.seq (.rgn false [⟨some 10, .mov (.t 4), none, []⟩,
    ⟨some 11, .mov (.t 0), none, []⟩,
    ⟨some 12, .scall (.c (.iv (.fn 247 []))) [.t 11], none, []⟩,
    ⟨some 13, .cvi .i64 (.t 12), none, []⟩,
    ⟨some 14, .nchk (.t 10), none, []⟩,
    ⟨some 15, .fadr 0 (.t 14), none, []⟩,
    ⟨none, .store 1 (.t 15) (.t 13), none, []⟩] [0, 2, 4, 5])
   (.seq (.rgn false [⟨some 16, .mov (.t 4), none, []⟩,
    ⟨some 17, .nchk (.t 16), none, []⟩,
    ⟨some 18, .fadr 0 (.t 17), none, []⟩,
    ⟨some 19, .load false 1 (.t 18), none, []⟩] [0, 2, 4, 5, 19])
   (.block 2 (.seq (.rgn false [⟨some 21, .bin .eql 0 (.t 19) (.c (.iv (.int .i64 (1)))), none, []⟩,
    ⟨some 20, .mov (.t 21), none, []⟩] [0, 2, 4, 5, 19, 20])
   (.cond (.t 20) (.rgn false [⟨some 22, .mov (.t 4), none, []⟩,
    ⟨some 23, .mov (.t 0), none, []⟩,
    ⟨some 24, .scall (.c (.iv (.fn 252 []))) [.t 23], none, []⟩,
    ⟨some 25, .nchk (.t 22), none, []⟩,
    ⟨some 26, .fadr 1 (.t 25), none, []⟩,
    ⟨none, .store 1 (.t 26) (.t 24), none, []⟩] [0, 2, 5])
   (.seq (.rgn false [⟨some 28, .bin .eql 0 (.t 19) (.c (.iv (.int .i64 (2)))), none, []⟩,
    ⟨some 27, .mov (.t 28), none, []⟩] [0, 2, 4, 5, 27])
   (.cond (.t 27) (.rgn false [⟨some 29, .mov (.t 4), none, []⟩,
    ⟨some 30, .mov (.t 0), none, []⟩,
    ⟨some 31, .scall (.c (.iv (.fn 253 []))) [.t 30, .c (.iv (.int .i64 (8)))], none, []⟩,
    ⟨some 32, .nchk (.t 29), none, []⟩,
    ⟨some 33, .fadr 2 (.t 32), none, []⟩,
    ⟨none, .store 1 (.t 33) (.t 31), none, []⟩] [0, 2, 5])
   (.skip)))))))))))
   (.rgn false [⟨some 34, .bin .add 0 (.t 5) (.c (.iv (.int .i64 (1)))), none, []⟩,
    ⟨some 5, .mov (.t 34), none, []⟩] [0, 2, 5])))))))
   (.seq (.seq (.rgn false [⟨some 35, .load true 12 (.t 2), none, []⟩,
    ⟨some 36, .call 0 (.c (.iv (.fn 137 []))) [.t 35], none, []⟩,
    ⟨some 37, .un .not (.t 36), none, []⟩] [0, 2, 37])
   (.cond (.t 37) (.rgn false [⟨some 38, .mov (.t 0), none, []⟩,
    ⟨some 39, .scall (.c (.iv (.fn 246 []))) [.t 38, .c (.iv (.int .i64 (2)))], none, []⟩] [0, 2])
   (.skip)))
   (.seq (.seq (.rgn false [⟨some 40, .mov (.t 0), none, []⟩,
    ⟨some 41, .scall (.c (.iv (.fn 240 []))) [.t 40], none, []⟩,
    ⟨some 42, .bin .neq 0 (.t 41) (.c (.iv (.int .i64 (0)))), none, []⟩] [2, 42])
   (.cond (.t 42) (.seq (.rgn false [⟨some 43, .build [.iv (.int .i64 0), .iv (.int .i64 0), .iv (.str ⟨#[]⟩), .iv (.int .i64 0), .iv (.int .i64 0), .iv (.str ⟨#[]⟩), .iv (.int .i64 0), .iv (.int .i64 0), .iv (.str ⟨#[]⟩), .iv (.int .i64 0), .iv (.int .i64 0), .iv (.str ⟨#[]⟩)] [], none, []⟩,
    ⟨none, .store 12 (.t 2) (.t 43), none, []⟩] [2])
   (.ret))
   (.skip)))
   (.seq (.rgn false [⟨some 44, .load true 12 (.t 2), none, []⟩,
    ⟨none, .store 12 (.t 2) (.t 44), none, []⟩] [2])
   (.ret))))), none⟩
/-- slices.Clone[[]int,int] -/
def F225 : IFn := ⟨1, [], .skip, some (Prim.clone 1)⟩
/-- slices.Clone[[]string,string] -/
def F54 : IFn := ⟨1, [], .skip, some (Prim.clone 1)⟩
/-- slices.ContainsFunc[[]arbour/api.Entry,arbour/api.Entry] -/
def F140 : IFn := ⟨2, [.t 4],
   .seq (.rgn false [⟨some 4, .mov (.c (.iv (.bool false))), none, []⟩] [0, 1])
   (.seq (.rgn false [⟨some 5, .mov (.t 0), none, []⟩,
    ⟨some 6, .mov (.t 1), none, []⟩,
    ⟨some 7, .scall (.c (.iv (.fn 147 []))) [.t 5, .t 6], none, []⟩,
    ⟨some 8, .bin .geq 0 (.t 7) (.c (.iv (.int .i64 (0)))), none, []⟩,
    ⟨some 4, .mov (.t 8), none, []⟩] [4])
   (.ret)), none⟩
/-- slices.IndexFunc[[]arbour/api.Entry,arbour/api.Entry] -/
def F147 : IFn := ⟨2, [.t 4],
   .seq (.rgn false [⟨some 4, .mov (.c (.iv (.int .i64 (0)))), none, []⟩] [0, 1])
   (.seq (.seq (.rgn false [⟨some 6, .mov (.t 0), none, []⟩,
    ⟨some 7, .len false (.t 6), none, []⟩,
    ⟨some 8, .mov (.c (.iv (.int .i64 (0)))), none, []⟩] [0, 1, 7, 8])
   (.block 0 (.loop [0, 1, 7, 8] (.seq (.rgn false [⟨some 9, .bin .lss 0 (.t 8) (.t 7), none, []⟩] [0, 1, 7, 8, 9])
   (.seq (.cond (.t 9) (.skip)
   (.exit 0))
   (.seq (.block 1 (.seq (.rgn false [⟨some 10, .mov (.t 8), none, []⟩,
    ⟨some 5, .mov (.t 10), none, []⟩] [0, 1, 5, 7, 8])
   (.seq (.rgn false [⟨some 11, .mov (.t 1), none, []⟩,
    ⟨some 12, .mov (.t 0), none, []⟩,
    ⟨some 13, .mov (.t 5), none, []⟩,
    ⟨some 14, .isl 3 (.t 12) (.t 13), none, []⟩,
    ⟨some 15, .load true 3 (.t 14), none, []⟩,
    ⟨some 16, .scall (.t 11) [.t 15], none, []⟩] [0, 1, 5, 7, 8, 16])
   (.cond (.t 16) (.seq (.rgn false [⟨some 17, .mov (.t 5), none, []⟩,
    ⟨some 4, .mov (.t 17), none, []⟩] [4])
   (.ret))
   (.skip)))))
   (.rgn false [⟨some 18, .bin .add 0 (.t 8) (.c (.iv (.int .i64 (1)))), none, []⟩,
    ⟨some 8, .mov (.t 18), none, []⟩] [0, 1, 7, 8])))))))
   (.seq (.rgn false [⟨some 4, .mov (.c (.iv (.int .i64 (-1)))), none, []⟩] [4])
   (.ret))), none⟩
end Arx
