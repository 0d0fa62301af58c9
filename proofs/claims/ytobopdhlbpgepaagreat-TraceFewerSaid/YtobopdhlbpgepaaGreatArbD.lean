/-
  A part of the proof of the statement that the last text of this claim holds: two abstract machines for the code, proved sound once, and what the program does on them. No condition.
-/
import Derived.Test.YtobopdhlbpgepaaGreatArbC
set_option linter.all false
namespace Arb
open Go
def F17:IFn:=⟨2,[.t 4],sr [oo 2 (.box (.t 0)),oo 3 (.box (.t 1)),oo 4 (.mov (cb false))] [2,3] (sr [oa 5 0 2,ol 6 5,oa 7 0 3,ol 8 7,oo 9 (.bin .eql 1 (.t 6) (.t 8)),om 10 9,og 11 (.fadr 2 (.t 2)) 10 true,og 12 (.load false 1 (.t 11)) 10 true,og 13 (.fadr 2 (.t 3)) 10 true,og 14 (.load false 1 (.t 13)) 10 true,og 15 (.bin .eql 1 (.t 12) (.t 14)) 10 true,oo 16 (.pick (.t 10) (.t 15) (cb false)),om 17 16,og 18 (.fadr 1 (.t 2)) 17 true,og 19 (.load false 1 (.t 18)) 17 true,og 20 (.fadr 1 (.t 3)) 17 true,og 21 (.load false 1 (.t 20)) 17 true,og 22 (.call 0 (.c (.fn 32 [])) [.t 19,.t 21]) 17 true,oo 23 (.pick (.t 17) (.t 22) (cb false)),om 24 23,og 25 (.fadr 3 (.t 2)) 24 true,og 26 (.load false 1 (.t 25)) 24 true,og 27 (.fadr 3 (.t 3)) 24 true,og 28 (.load false 1 (.t 27)) 24 true,og 29 (.call 0 (.c (.fn 33 [])) [.t 26,.t 28]) 24 true,oo 30 (.pick (.t 24) (.t 29) (cb false)),om 4 30] [4] .ret),none⟩
def F19:IFn:=⟨3,[.cell 6 true 16],sr [oo 3 (.box (.t 0)),oo 5 (.box (.t 2)),oo 6 (.alloc [.bool false,.nsl 2,.bool false,.nsl 1,.bool false,.nsl 2,.bool false,.nsl 1,.bool false,.nsl 2,.bool false,.nsl 1,.bool false,.nsl 2,.bool false,.nsl 1])] [1,3,5,6] (.seq (sr [om 7 1,oo 8 (.bin .geq 0 (.t 7) (ci 0)),om 9 8,og 10 (.mov (.t 1)) 9 true,og 11 (.bin .lss 0 (.t 10) (ci 4)) 9 true,oo 12 (.pick (.t 9) (.t 11) (cb false))] [1,3,5,6,12] (.cond (.t 12) (rg [om 13 1,oo 14 (.load true 4 (.t 5)),oo 15 (.iarr 4 4 (.t 3) (.t 13)),on (.store 4 (.t 15) (.t 14))] [3,6]) .skip)) (sr [oo 16 (.load true 16 (.t 3)),on (.store 16 (.t 6) (.t 16))] [6] .ret)),none⟩
def F23:IFn:=⟨2,[.cell 4 true 4],sr [oo 2 (.box (.t 0)),oo 3 (.box (.t 1)),oo 4 (.alloc [.bool false,.nsl 2,.bool false,.nsl 1])] [2,3,4] (.seq (.rgn true [oa 6 0 2,od 7 (.load false 1 (.t 6)) [0],od 8 (.mov (.t 7)) [0,1],oe 9 (.fadr 0 (.t 3)) 8 false [0,1,2],oe 10 (.load false 1 (.t 9)) 8 false [0,1,2,3],od 11 (.pick (.t 8) (cb true) (.t 10)) [0,1,2,3,4],oa 12 1 2,od 13 (.load false 1 (.t 12)) [6],od 14 (.call 2 (.c (.fn 38 [])) [.t 13]) [0,1,2,6,7],oa 15 1 3,od 16 (.load false 1 (.t 15)) [9],od 17 (.app 2 (.t 14) (.t 16)) [0,1,2,6,7,8,9,10],od 18 (.call 3 (.c (.fn 37 [])) [.t 17]) [0,1,2,6,7,8,9,10,11],oa 19 2 2,od 20 (.load false 1 (.t 19)) [13],od 21 (.mov (.t 20)) [0,1,2,6,7,8,9,10,11,12,13,14],oe 22 (.fadr 2 (.t 3)) 21 false [0,1,2,6,7,8,9,10,11,12,13,14,15],oe 23 (.load false 1 (.t 22)) 21 false [0,1,2,6,7,8,9,10,11,12,13,14,15,16],od 24 (.pick (.t 21) (cb true) (.t 23)) [0,1,2,6,7,8,9,10,11,12,13,14,15,16,17],od 25 (.build [.bool false,.nsl 2,.bool false,.nsl 1] [(0,1,.t 11),(1,1,.t 18),(2,1,.t 24)]) [0,1,2,3,4,5,6,7,8,9,10,11,12,13,14,15,16,17,18],oo 5 (.alloc [.bool false,.nsl 2,.bool false,.nsl 1]),⟨none,.store 4 (.t 5) (.t 25),none,[0,1,2,3,4,5,6,7,8,9,10,11,12,13,14,15,16,17,18,19,20]⟩] [2,3,4,5]) (.seq (.block 0 (sr [oa 33 2 2,ol 34 33,om 35 34,og 36 (.fadr 2 (.t 3)) 35 true,og 37 (.load false 1 (.t 36)) 35 true,oo 38 (.pick (.t 35) (.t 37) (cb false)),om 32 38] [2,3,4,5,32] (.cond (.t 32) (rg [oa 39 3 2,ol 40 39,oa 41 3 3,ol 42 41,oo 43 (.call 3 (.c (.fn 39 [])) [.t 40,.t 42,.c (.bool true)]),oa 44 3 5,on (.store 1 (.t 44) (.t 43))] [4,5]) (sr [oa 46 2 2,ol 47 46,om 45 47] [2,3,4,5,45] (.cond (.t 45) (rg [oa 48 3 2,ol 49 48,oa 50 3 3,ol 51 50,oo 52 (.call 3 (.c (.fn 39 [])) [.t 49,.t 51,.c (.bool false)]),oa 53 3 5,on (.store 1 (.t 53) (.t 52))] [4,5]) (sr [oa 55 2 3,ol 56 55,om 54 56] [2,3,4,5,54] (.cond (.t 54) (rg [oa 57 3 3,ol 58 57,oa 59 3 2,ol 60 59,oo 61 (.call 3 (.c (.fn 39 [])) [.t 58,.t 60,.c (.bool false)]),oa 62 3 5,on (.store 1 (.t 62) (.t 61))] [4,5]) (rg [oa 26 3 2,ol 27 26,oa 28 3 3,ol 29 28,oo 30 (.call 3 (.c (.fn 40 [])) [.t 27,.t 29]),oa 31 3 5,on (.store 1 (.t 31) (.t 30))] [4,5])))))))) (sr [oo 63 (.load true 4 (.t 5)),on (.store 4 (.t 4) (.t 63))] [4] .ret))),none⟩
def F24:IFn:=⟨1,[.t 2],sr [oo 1 (.box (.t 0)),oo 2 (.mov (cb false))] [1] (sr [oa 3 1 1,ol 4 3,oo 5 (.len false (.t 4)),oo 6 (.bin .leq 0 (.t 5) (ci 6)),om 7 6,og 8 (.fadr 3 (.t 1)) 7 true,og 9 (.load false 1 (.t 8)) 7 true,og 10 (.len false (.t 9)) 7 true,og 11 (.bin .leq 0 (.t 10) (ci 6)) 7 true,oo 12 (.pick (.t 7) (.t 11) (cb false)),om 2 12] [2] .ret),none⟩
def F26:IFn:=⟨2,[.cell 4 true 16],sr [oo 3 (.box (.t 1)),oo 4 (.alloc [.bool false,.nsl 2,.bool false,.nsl 1,.bool false,.nsl 2,.bool false,.nsl 1,.bool false,.nsl 2,.bool false,.nsl 1,.bool false,.nsl 2,.bool false,.nsl 1])] [0,3,4] (.seq (.rgn true [oo 5 (.call 3 (.c (.fn 42 [])) []),om 6 0,oo 7 (.load true 4 (.t 3)),od 8 (.call 3 (.c (.fn 19 [])) [.t 5,.t 6,.t 7]) [0,1,2],⟨none,.store 16 (.t 4) (.t 8),none,[0,1,2,3]⟩] [4]) .ret),none⟩
def F27:IFn:=⟨1,[.t 2],sr [oo 2 (.mov (cb false))] [0] (.seq (sr [oo 3 (.mov (ci 0))] [0,3] (.block 0 (.loop [0,3] (.seq (sr [om 5 3,om 6 0,oo 7 (.len false (.t 6)),ob 8 .lss 5 7] [0,3,8] (.cond (.t 8) .skip (.exit 0))) (.seq (.block 1 (.seq (sr [om 11 0,om 12 3,oo 13 (.isl 4 (.t 11) (.t 12)),oa 14 1 13,ol 15 14,oo 16 (.len false (.t 15)),oo 17 (.bin .gtr 0 (.t 16) (ci 40)),om 18 17,og 19 (.mov (.t 0)) 18 false,og 20 (.mov (.t 3)) 18 false,og 21 (.isl 4 (.t 19) (.t 20)) 18 false,og 22 (.fadr 3 (.t 21)) 18 false,og 23 (.load false 1 (.t 22)) 18 false,og 24 (.len false (.t 23)) 18 false,og 25 (.bin .gtr 0 (.t 24) (ci 40)) 18 false,oo 26 (.pick (.t 18) (cb true) (.t 25))] [0,3,26] (.cond (.t 26) (sr [oo 2 (.mov (cb false))] [2] .ret) .skip)) (sr [oo 4 (.mov (ci 0))] [0,3,4] (.block 2 (.loop [0,3,4] (.seq (sr [om 27 4,om 28 0,om 29 3,oo 30 (.isl 4 (.t 28) (.t 29)),oa 31 3 30,ol 32 31,oo 33 (.len false (.t 32)),ob 34 .lss 27 33] [0,3,4,34] (.cond (.t 34) .skip (.exit 2))) (.seq (.block 3 (sr [om 37 0,om 38 3,oo 39 (.isl 4 (.t 37) (.t 38)),oa 40 3 39,ol 41 40,om 42 4,oo 43 (.isl 1 (.t 41) (.t 42)),ol 44 43,oo 45 (.len true (.t 44)),oo 46 (.bin .gtr 0 (.t 45) (ci 100))] [0,3,4,46] (.cond (.t 46) (sr [oo 2 (.mov (cb false))] [2] .ret) .skip))) (rg [om 35 4,oo 36 (.bin .add 0 (.t 35) (ci 1)),om 4 36] [0,3,4])))))))) (rg [om 9 3,oo 10 (.bin .add 0 (.t 9) (ci 1)),om 3 10] [0,3])))))) (sr [oo 2 (.mov (cb true))] [2] .ret)),none⟩
def F30:IFn:=⟨1,[.t 2],sr [oo 2 (.mov (cb false))] [0] (.seq (sr [om 5 0,oo 6 (.len false (.t 5)),oo 7 (.bin .gtr 0 (.t 6) (ci 4))] [0,7] (.cond (.t 7) (sr [oo 2 (.mov (cb false))] [2] .ret) .skip)) (.seq (sr [om 8 0,oo 9 (.len false (.t 8)),oo 10 (.mov (ci 0))] [0,8,9,10] (.block 0 (.loop [0,8,9,10] (sr [ob 11 .lss 10 9] [0,8,9,10,11] (.seq (.cond (.t 11) .skip (.exit 0)) (.seq (.block 1 (sr [oo 12 (.isl 16 (.t 8) (.t 10)),oo 13 (.load true 16 (.t 12)),oo 4 (.alloc [.bool false,.nsl 2,.bool false,.nsl 1,.bool false,.nsl 2,.bool false,.nsl 1,.bool false,.nsl 2,.bool false,.nsl 1,.bool false,.nsl 2,.bool false,.nsl 1]),on (.store 16 (.t 4) (.t 13))] [0,4,8,9,10] (sr [oo 14 (.load true 16 (.t 4)),oo 15 (.call 0 (.c (.fn 45 [])) [.t 14]),oo 16 (.un .not (.t 15)),om 17 16,og 18 (.load true 16 (.t 4)) 17 false,og 19 (.call 0 (.c (.fn 46 [])) [.t 18]) 17 false,og 20 (.un .not (.t 19)) 17 false,oo 21 (.pick (.t 17) (cb true) (.t 20))] [0,8,9,10,21] (.cond (.t 21) (sr [oo 2 (.mov (cb false))] [2] .ret) .skip)))) (rg [oo 22 (.bin .add 0 (.t 10) (ci 1)),om 10 22] [0,8,9,10]))))))) (sr [om 23 0,oo 24 (.call 3 (.c (.fn 47 [])) [.t 23]),oo 25 (.len false (.t 24)),om 26 0,oo 27 (.len false (.t 26)),ob 28 .eql 25 27,om 2 28] [2] .ret))),none⟩
def F32:IFn:=⟨2,[.t 4],sr [oo 4 (.mov (cb false))] [0,1] (.seq (sr [om 6 0,oo 7 (.len false (.t 6)),om 8 1,oo 9 (.len false (.t 8)),ob 10 .neq 7 9] [0,1,10] (.cond (.t 10) (sr [oo 4 (.mov (cb false))] [4] .ret) .skip)) (.seq (sr [om 11 0,oo 12 (.len false (.t 11)),oo 13 (.mov (ci 0))] [0,1,12,13] (.block 0 (.loop [0,1,12,13] (sr [ob 14 .lss 13 12] [0,1,12,13,14] (.seq (.cond (.t 14) .skip (.exit 0)) (.seq (.block 1 (sr [om 15 13,om 5 15] [0,1,5,12,13] (.seq (.rgn true [om 16 0,om 17 5,od 18 (.isl 2 (.t 16) (.t 17)) [0,1],od 19 (.load true 2 (.t 18)) [0,1,2],om 20 1,om 21 5,od 22 (.isl 2 (.t 20) (.t 21)) [4,5],od 23 (.load true 2 (.t 22)) [4,5,6],od 24 (.eqc true [0,0] (.t 19) (.t 23)) [0,1,2,3,4,5,6,7]] [0,1,12,13,24]) (.cond (.t 24) (sr [oo 4 (.mov (cb false))] [4] .ret) .skip)))) (rg [oo 25 (.bin .add 0 (.t 13) (ci 1)),om 13 25] [0,1,12,13]))))))) (sr [oo 4 (.mov (cb true))] [4] .ret))),none⟩
def F33:IFn:=⟨2,[.t 4],sr [oo 4 (.mov (cb false))] [0,1] (.seq (sr [om 6 0,oo 7 (.len false (.t 6)),om 8 1,oo 9 (.len false (.t 8)),ob 10 .neq 7 9] [0,1,10] (.cond (.t 10) (sr [oo 4 (.mov (cb false))] [4] .ret) .skip)) (.seq (sr [om 11 0,oo 12 (.len false (.t 11)),oo 13 (.mov (ci 0))] [0,1,12,13] (.block 0 (.loop [0,1,12,13] (sr [ob 14 .lss 13 12] [0,1,12,13,14] (.seq (.cond (.t 14) .skip (.exit 0)) (.seq (.block 1 (sr [om 15 13,om 5 15] [0,1,5,12,13] (.seq (.rgn true [om 16 0,om 17 5,od 18 (.isl 1 (.t 16) (.t 17)) [0,1],od 19 (.load false 1 (.t 18)) [0,1,2],om 20 1,om 21 5,od 22 (.isl 1 (.t 20) (.t 21)) [4,5],od 23 (.load false 1 (.t 22)) [4,5,6],od 24 (.bin .neq 0 (.t 19) (.t 23)) [0,1,2,3,4,5,6,7]] [0,1,12,13,24]) (.cond (.t 24) (sr [oo 4 (.mov (cb false))] [4] .ret) .skip)))) (rg [oo 25 (.bin .add 0 (.t 13) (ci 1)),om 13 25] [0,1,12,13]))))))) (sr [oo 4 (.mov (cb true))] [4] .ret))),none⟩
def F36:IFn:=⟨2,[.t 4],sr [oo 4 (.mov (.c (.int .u64 (0))))] [0,1] (.seq (sr [om 5 0,om 6 1,oo 7 (.bin .sub 0 (.c (.int .u64 (18446744073709551615))) (.t 6)),ob 8 .gtr 5 7] [0,1,8] (.cond (.t 8) (sr [oo 4 (.mov (.c (.int .u64 (18446744073709551615))))] [4] .ret) .skip)) (sr [om 9 0,om 10 1,ob 11 .add 9 10,om 4 11] [4] .ret)),none⟩
def F37:IFn:=⟨1,[.t 2],sr [oo 2 (.nil0 2)] [0,2] (sr [om 6 0,oo 7 (.call 2 (.c (.fn 38 [])) [.t 6]),om 0 7] [0,2] (sr [om 8 0,oo 9 (.call 1 (.c (.fn 50 [])) [.t 8,.c (.fn 51 [])])] [0,2] (.seq (sr [om 10 0,oo 11 (.len false (.t 10)),oo 12 (.mov (ci 0))] [2,10,11,12] (.block 0 (.loop [2,10,11,12] (sr [ob 13 .lss 12 11] [2,10,11,12,13] (.seq (.cond (.t 13) .skip (.exit 0)) (.seq (.block 1 (sr [oo 14 (.isl 2 (.t 10) (.t 12)),oo 15 (.load true 2 (.t 14)),oo 4 (.alloc [.int .i64 0,.int .i64 0]),on (.store 2 (.t 4) (.t 15))] [2,4,10,11,12] (.seq (sr [oa 16 0 4,ol 17 16,oa 18 1 4,ol 19 18,ob 20 .gtr 17 19] [2,4,10,11,12,20] (.cond (.t 20) (.exit 1) .skip)) (sr [om 21 2,oo 22 (.len false (.t 21)),om 5 22] [2,4,5,10,11,12] (.seq (.seq (.rgn true [om 23 5,od 24 (.bin .gtr 0 (.t 23) (ci 0)) [0],od 25 (.mov (.t 24)) [0,1],oe 26 (.mov (.t 2)) 25 true [0,1,2],oe 27 (.mov (.t 5)) 25 true [0,1,2],oe 28 (.bin .sub 0 (.t 27) (ci 1)) 25 true [0,1,2,4],oe 29 (.isl 2 (.t 26) (.t 28)) 25 true [0,1,2,3,4,5],oe 30 (.fadr 1 (.t 29)) 25 true [0,1,2,3,4,5,6],oe 31 (.load false 1 (.t 30)) 25 true [0,1,2,3,4,5,6,7],oe 32 (.bin .eql 0 (.t 31) (ci 9223372036854775807)) 25 true [0,1,2,3,4,5,6,7,8],oe 33 (.mov (.t 32)) 25 true [0,1,2,3,4,5,6,7,8,9],oe 34 (.fadr 0 (.t 4)) 33 false [0,1,2,3,4,5,6,7,8,9,10],oe 35 (.load false 1 (.t 34)) 33 false [0,1,2,3,4,5,6,7,8,9,10,11],oe 36 (.mov (.t 2)) 33 false [0,1,2,3,4,5,6,7,8,9,10],oe 37 (.mov (.t 5)) 33 false [0,1,2,3,4,5,6,7,8,9,10],oe 38 (.bin .sub 0 (.t 37) (ci 1)) 33 false [0,1,2,3,4,5,6,7,8,9,10,14],oe 39 (.isl 2 (.t 36) (.t 38)) 33 false [0,1,2,3,4,5,6,7,8,9,10,13,14,15],oe 40 (.fadr 1 (.t 39)) 33 false [0,1,2,3,4,5,6,7,8,9,10,13,14,15,16],oe 41 (.load false 1 (.t 40)) 33 false [0,1,2,3,4,5,6,7,8,9,10,13,14,15,16,17],oe 42 (.bin .add 0 (.t 41) (ci 1)) 33 false [0,1,2,3,4,5,6,7,8,9,10,13,14,15,16,17,18],oe 43 (.bin .leq 0 (.t 35) (.t 42)) 33 false [0,1,2,3,4,5,6,7,8,9,10,11,12,13,14,15,16,17,18,19],oe 44 (.pick (.t 33) (cb true) (.t 43)) 25 true [0,1,2,3,4,5,6,7,8,9,10,11,12,13,14,15,16,17,18,19,20],od 45 (.pick (.t 25) (.t 44) (cb false)) [0,1,2,3,4,5,6,7,8,9,10,11,12,13,14,15,16,17,18,19,20,21]] [2,4,5,10,11,12,45]) (.cond (.t 45) (.seq (.rgn true [om 46 2,om 47 5,od 48 (.bin .sub 0 (.t 47) (ci 1)) [1],om 49 2,om 50 5,od 51 (.bin .sub 0 (.t 50) (ci 1)) [4],od 52 (.isl 2 (.t 49) (.t 51)) [3,4,5],od 53 (.fadr 1 (.t 52)) [3,4,5,6],od 54 (.load false 1 (.t 53)) [3,4,5,6,7],oa 55 1 4,od 56 (.load false 1 (.t 55)) [9],od 57 (.mx (.t 54) [.t 56]) [3,4,5,6,7,8,9,10],od 58 (.isl 2 (.t 46) (.t 48)) [0,1,2,3,4,5,6,7,8,9,10,11],od 59 (.fadr 1 (.t 58)) [0,1,2,3,4,5,6,7,8,9,10,11,12],⟨none,.store 1 (.t 59) (.t 57),none,[0,1,2,3,4,5,6,7,8,9,10,11,12,13]⟩] [2,10,11,12]) (.exit 1)) .skip)) (rg [om 60 2,oo 61 (.load true 2 (.t 4)),oo 62 (.bsl 2 [.int .i64 0,.int .i64 0] 1 [(0,.t 61)]),oo 63 (.app 2 (.t 60) (.t 62)),om 2 63] [2,10,11,12])))))) (rg [oo 64 (.bin .add 0 (.t 12) (ci 1)),om 12 64] [2,10,11,12]))))))) (sr [om 65 2,om 2 65] [2] .ret)))),none⟩
def F38:IFn:=⟨1,[.t 2],.skip,some (2,[.int .i64 0,.int .i64 0])⟩
def F39:IFn:=⟨3,[.t 6],sr [oo 6 (.nil0 1)] [0,1,2,6] (.seq (sr [om 9 0,oo 10 (.len false (.t 9)),oo 11 (.mov (ci 0))] [1,2,6,9,10,11] (.block 0 (.loop [1,2,6,9,10,11] (sr [ob 12 .lss 11 10] [1,2,6,9,10,11,12] (.seq (.cond (.t 12) .skip (.exit 0)) (.seq (.block 1 (sr [oo 13 (.isl 1 (.t 9) (.t 11)),ol 14 13,om 8 14] [1,2,6,8,9,10,11] (sr [om 15 1,om 16 8,oo 17 (.call 0 (.c (.fn 53 [])) [.t 15,.t 16]),om 18 2,oo 19 (.bin .eql 1 (.t 17) (.t 18))] [1,2,6,8,9,10,11,19] (.cond (.t 19) (rg [om 20 6,om 21 8,⟨some 22,.bsl 1 [.str ⟨#[]⟩] 1 [(0,.t 21)],none,[]⟩,oo 23 (.app 1 (.t 20) (.t 22)),om 6 23] [1,2,6,9,10,11]) .skip)))) (rg [oo 24 (.bin .add 0 (.t 11) (ci 1)),om 11 24] [1,2,6,9,10,11]))))))) (sr [om 25 6,om 6 25] [6] .ret)),none⟩
def F40:IFn:=⟨2,[.t 4],sr [oo 4 (.nil0 1)] [0,1] (sr [om 6 0,oo 7 (.call 2 (.c (.fn 54 [])) [.t 6]),om 8 1,oo 9 (.app 1 (.t 7) (.t 8)),om 5 9] [5] (sr [om 10 5,oo 11 (.call 1 (.c (.fn 55 [])) [.t 10])] [5] (sr [om 12 5,oo 13 (.call 1 (.c (.fn 56 [])) [.t 12]),om 4 13] [4] .ret))),none⟩
def F42:IFn:=⟨0,[.cell 0 true 16],sr [oo 0 (.alloc [.bool false,.nsl 2,.bool false,.nsl 1,.bool false,.nsl 2,.bool false,.nsl 1,.bool false,.nsl 2,.bool false,.nsl 1,.bool false,.nsl 2,.bool false,.nsl 1])] [0] (.seq (sr [oo 2 (.mov (ci 0))] [0,2] (.block 0 (.loop [0,2] (sr [oo 3 (.bin .lss 0 (.t 2) (ci 4))] [0,2,3] (.seq (.cond (.t 3) .skip (.exit 0)) (.seq (.block 1 (sr [om 4 2,om 1 4] [0,1,2] (rg [om 5 1,oo 6 (.call 3 (.c (.fn 57 [])) []),oo 7 (.iarr 4 4 (.t 0) (.t 5)),on (.store 4 (.t 7) (.t 6))] [0,2]))) (rg [oo 8 (.bin .add 0 (.t 2) (ci 1)),om 2 8] [0,2]))))))) (sr [oo 9 (.load true 16 (.t 0)),on (.store 16 (.t 0) (.t 9))] [0] .ret)),none⟩
def F45:IFn:=⟨1,[.t 2],sr [oo 1 (.box (.t 0)),oo 2 (.mov (cb false))] [1] (.seq (sr [oo 5 (.load true 16 (.t 1)),oo 6 (.mov (ci 0))] [5,6] (.block 0 (.loop [5,6] (sr [oo 7 (.bin .lss 0 (.t 6) (ci 4))] [5,6,7] (.seq (.cond (.t 7) .skip (.exit 0)) (.seq (.block 1 (sr [oo 8 (.xarr true 4 4 (.t 5) (.t 6)),oo 4 (.alloc [.bool false,.nsl 2,.bool false,.nsl 1]),on (.store 4 (.t 4) (.t 8))] [4,5,6] (sr [oo 9 (.load true 4 (.t 4)),oo 10 (.call 0 (.c (.fn 58 [])) [.t 9]),oo 11 (.un .not (.t 10))] [5,6,11] (.cond (.t 11) (sr [oo 2 (.mov (cb false))] [2] .ret) .skip)))) (rg [oo 12 (.bin .add 0 (.t 6) (ci 1)),om 6 12] [5,6]))))))) (sr [oo 2 (.mov (cb true))] [2] .ret)),none⟩
def F46:IFn:=⟨1,[.t 2],sr [oo 1 (.box (.t 0)),oo 2 (.mov (cb false))] [1] (.seq (sr [oo 5 (.load true 16 (.t 1)),oo 6 (.mov (ci 0))] [5,6] (.block 0 (.loop [5,6] (sr [oo 7 (.bin .lss 0 (.t 6) (ci 4))] [5,6,7] (.seq (.cond (.t 7) .skip (.exit 0)) (.seq (.block 1 (sr [oo 8 (.xarr true 4 4 (.t 5) (.t 6)),oo 4 (.alloc [.bool false,.nsl 2,.bool false,.nsl 1]),on (.store 4 (.t 4) (.t 8))] [4,5,6] (sr [oo 9 (.load true 4 (.t 4)),oo 10 (.call 0 (.c (.fn 24 [])) [.t 9]),oo 11 (.un .not (.t 10))] [5,6,11] (.cond (.t 11) (sr [oo 2 (.mov (cb false))] [2] .ret) .skip)))) (rg [oo 12 (.bin .add 0 (.t 6) (ci 1)),om 6 12] [5,6]))))))) (sr [oo 2 (.mov (cb true))] [2] .ret)),none⟩
def F47:IFn:=⟨1,[.t 2],sr [oo 2 (.nil0 16)] [0,2] (.seq (sr [om 6 0,oo 7 (.len false (.t 6)),oo 8 (.mov (ci 0))] [0,2,7,8] (.block 0 (.loop [0,2,7,8] (sr [ob 9 .lss 8 7] [0,2,7,8,9] (.seq (.cond (.t 9) .skip (.exit 0)) (.seq (.block 1 (sr [om 10 8,om 3 10] [0,2,3,7,8] (.seq (sr [om 11 0,om 12 3,oo 13 (.isl 16 (.t 11) (.t 12)),oo 14 (.load true 16 (.t 13)),oo 15 (.call 0 (.c (.fn 59 [])) [.t 14])] [0,2,3,7,8,15] (.cond (.t 15) (.exit 1) .skip)) (sr [oo 4 (.mov (cb false))] [0,2,3,4,7,8] (.seq (sr [om 16 0,oo 17 (.len false (.t 16)),oo 18 (.mov (ci 0))] [0,2,3,4,7,8,17,18] (.block 2 (.loop [0,2,3,4,7,8,17,18] (sr [ob 19 .lss 18 17] [0,2,3,4,7,8,17,18,19] (.seq (.cond (.t 19) .skip (.exit 2)) (.seq (.block 3 (sr [om 20 18,om 5 20] [0,2,3,4,5,7,8,17,18] (.rgn true [om 21 4,od 22 (.mov (.t 21)) [0],oe 23 (.mov (.t 5)) 22 false [0,1],oe 24 (.mov (.t 3)) 22 false [0,1],oe 25 (.bin .neq 0 (.t 23) (.t 24)) 22 false [0,1,2,3],oe 26 (.mov (.t 25)) 22 false [0,1,2,3,4],oe 27 (.mov (.t 0)) 26 true [0,1,2,3,4,5],oe 28 (.mov (.t 3)) 26 true [0,1,2,3,4,5],oe 29 (.isl 16 (.t 27) (.t 28)) 26 true [0,1,2,3,4,5,6,7],oe 30 (.mov (.t 0)) 26 true [0,1,2,3,4,5],oe 31 (.mov (.t 5)) 26 true [0,1,2,3,4,5],oe 32 (.isl 16 (.t 30) (.t 31)) 26 true [0,1,2,3,4,5,9,10],oe 33 (.mov (.t 5)) 26 true [0,1,2,3,4,5],oe 34 (.mov (.t 3)) 26 true [0,1,2,3,4,5],oe 35 (.bin .lss 0 (.t 33) (.t 34)) 26 true [0,1,2,3,4,5,12,13],oe 36 (.call 0 (.c (.fn 60 [])) [.t 29,.t 32,.t 35]) 26 true [0,1,2,3,4,5,6,7,8,9,10,11,12,13,14],oe 37 (.pick (.t 26) (.t 36) (cb false)) 22 false [0,1,2,3,4,5,6,7,8,9,10,11,12,13,14,15],od 38 (.pick (.t 22) (cb true) (.t 37)) [0,1,2,3,4,5,6,7,8,9,10,11,12,13,14,15,16],od 4 (.mov (.t 38)) [0,1,2,3,4,5,6,7,8,9,10,11,12,13,14,15,16,17]] [0,2,3,4,7,8,17,18]))) (rg [oo 39 (.bin .add 0 (.t 18) (ci 1)),om 18 39] [0,2,3,4,7,8,17,18]))))))) (sr [om 40 4,oo 41 (.un .not (.t 40))] [0,2,3,7,8,41] (.cond (.t 41) (rg [om 42 2,om 43 0,om 44 3,oo 45 (.isl 16 (.t 43) (.t 44)),oo 46 (.load true 16 (.t 45)),oo 47 (.bsl 16 [.bool false,.nsl 2,.bool false,.nsl 1,.bool false,.nsl 2,.bool false,.nsl 1,.bool false,.nsl 2,.bool false,.nsl 1,.bool false,.nsl 2,.bool false,.nsl 1] 1 [(0,.t 46)]),oo 48 (.app 16 (.t 42) (.t 47)),om 2 48] [0,2,7,8]) .skip))))))) (rg [oo 49 (.bin .add 0 (.t 8) (ci 1)),om 8 49] [0,2,7,8]))))))) (sr [om 50 2,om 2 50] [2] .ret)),none⟩
def F50:IFn:=⟨2,[],sr [om 5 0,oo 6 (.len false (.t 5)),om 4 6] [0,1,4] (rg [om 7 0,om 8 4,om 9 4,oo 10 (.cvi .u64 (.t 9)),oo 11 (.call 0 (.c (.fn 62 [])) [.t 10]),om 12 1,oo 13 (.call 1 (.c (.fn 61 [])) [.t 7,.c (.int .i64 (0)),.t 8,.t 11,.t 12])] []),none⟩
def F51:IFn:=⟨2,[.t 4],sr [oo 2 (.box (.t 0)),oo 3 (.box (.t 1)),oo 4 (.mov (ci 0))] [2,3] (sr [oa 5 0 2,ol 6 5,oa 7 0 3,ol 8 7,oo 9 (.call 0 (.c (.fn 52 [])) [.t 6,.t 8]),om 4 9] [4] .ret),none⟩
def F52:IFn:=⟨2,[.t 4],sr [oo 4 (.mov (ci 0))] [0,1] (sr [om 7 0,oo 8 (.call 0 (.c (.fn 63 [])) [.t 7]),om 5 8] [0,1,5] (sr [om 9 1,oo 10 (.call 0 (.c (.fn 63 [])) [.t 9]),om 6 10] [0,1,5,6] (.seq (sr [om 11 5] [0,1,6,11] (.cond (.t 11) (.seq (sr [om 12 6] [12] (.cond (.t 12) (sr [oo 4 (.mov (ci 0))] [4] .ret) .skip)) (sr [oo 4 (.mov (ci (-1)))] [4] .ret)) .skip)) (.seq (sr [om 13 6] [0,1,13] (.cond (.t 13) (sr [oo 4 (.mov (ci 1))] [4] .ret) .skip)) (.seq (sr [om 14 0,om 15 1,ob 16 .lss 14 15] [0,1,16] (.cond (.t 16) (sr [oo 4 (.mov (ci (-1)))] [4] .ret) .skip)) (.seq (sr [om 17 0,om 18 1,ob 19 .gtr 17 18] [19] (.cond (.t 19) (sr [oo 4 (.mov (ci 1))] [4] .ret) .skip)) (sr [oo 4 (.mov (ci 0))] [4] .ret))))))),none⟩
def F53:IFn:=⟨2,[.t 4],sr [oo 4 (.mov (cb false))] [0,1] (sr [om 5 0,om 6 1,oo 7 (.call 0 (.c (.fn 64 [])) [.t 5,.t 6]),oo 8 (.bin .geq 0 (.t 7) (ci 0)),om 4 8] [4] .ret),none⟩
def F54:IFn:=⟨1,[.t 2],.skip,some (1,[.str ⟨#[]⟩])⟩
def F55:IFn:=⟨1,[],sr [om 3 0,oo 4 (.len false (.t 3)),om 2 4] [0,2] (rg [om 5 0,om 6 2,om 7 2,oo 8 (.cvi .u64 (.t 7)),oo 9 (.call 0 (.c (.fn 62 [])) [.t 8]),oo 10 (.call 1 (.c (.fn 65 [])) [.t 5,.c (.int .i64 (0)),.t 6,.t 9])] []),none⟩
def F56:IFn:=⟨1,[.t 2],sr [oo 2 (.nil0 1)] [0] (.seq (sr [om 6 0,oo 7 (.len false (.t 6)),oo 8 (.bin .lss 0 (.t 7) (ci 2))] [0,8] (.cond (.t 8) (sr [om 9 0,om 2 9] [2] .ret) .skip)) (.seq (sr [oo 3 (.mov (ci 1))] [0,3] (.block 0 (.loop [0,3] (.seq (sr [om 10 3,om 11 0,oo 12 (.len false (.t 11)),ob 13 .lss 10 12] [0,3,13] (.cond (.t 13) .skip (.exit 0))) (.seq (.block 1 (.seq (.rgn true [om 16 0,om 17 3,od 18 (.isl 1 (.t 16) (.t 17)) [0,1],od 19 (.load false 1 (.t 18)) [0,1,2],om 20 0,om 21 3,od 22 (.bin .sub 0 (.t 21) (ci 1)) [5],od 23 (.isl 1 (.t 20) (.t 22)) [4,5,6],od 24 (.load false 1 (.t 23)) [4,5,6,7],od 25 (.bin .eql 0 (.t 19) (.t 24)) [0,1,2,3,4,5,6,7,8]] [0,3,25]) (.cond (.t 25) (sr [om 26 0,om 27 3,oo 28 (.slc 1 (.t 26) (some (.t 27)) none),om 4 28] [0,3,4] (.seq (sr [oo 5 (.mov (ci 1))] [0,3,4,5] (.block 2 (.loop [0,3,4,5] (.seq (sr [om 29 5,om 30 4,oo 31 (.len false (.t 30)),ob 32 .lss 29 31] [0,3,4,5,32] (.cond (.t 32) .skip (.exit 2))) (.seq (.block 3 (.seq (.rgn true [om 35 4,om 36 5,od 37 (.isl 1 (.t 35) (.t 36)) [0,1],od 38 (.load false 1 (.t 37)) [0,1,2],om 39 4,om 40 5,od 41 (.bin .sub 0 (.t 40) (ci 1)) [5],od 42 (.isl 1 (.t 39) (.t 41)) [4,5,6],od 43 (.load false 1 (.t 42)) [4,5,6,7],od 44 (.bin .neq 0 (.t 38) (.t 43)) [0,1,2,3,4,5,6,7,8]] [0,3,4,5,44]) (.cond (.t 44) (sr [om 45 0,om 46 3,om 47 4,om 48 5,oo 49 (.isl 1 (.t 47) (.t 48)),ol 50 49,oo 51 (.isl 1 (.t 45) (.t 46)),on (.store 1 (.t 51) (.t 50))] [0,3,4,5] (rg [om 52 3,oo 53 (.bin .add 0 (.t 52) (ci 1)),om 3 53] [0,3,4,5])) .skip))) (rg [om 33 5,oo 34 (.bin .add 0 (.t 33) (ci 1)),om 5 34] [0,3,4,5])))))) (sr [om 54 0,om 55 3,oo 56 (.slc 1 (.t 54) (some (.t 55)) none),⟨none,.clr 1 [.str ⟨#[]⟩] (.t 56),none,[]⟩] [0,3] (sr [om 57 0,om 58 3,oo 59 (.slc 1 (.t 57) none (some (.t 58))),om 2 59] [2] .ret)))) .skip))) (rg [om 14 3,oo 15 (.bin .add 0 (.t 14) (ci 1)),om 3 15] [0,3])))))) (sr [om 60 0,om 2 60] [2] .ret))),none⟩
def F57:IFn:=⟨0,[.cell 0 true 4],sr [oo 0 (.alloc [.bool false,.nsl 2,.bool false,.nsl 1])] [0] (sr [oo 1 (.build [.int .i64 0,.int .i64 0] [(0,1,.c (.int .i64 (-9223372036854775808))),(1,1,.c (.int .i64 (9223372036854775807)))]),oo 2 (.bsl 2 [.int .i64 0,.int .i64 0] 1 [(0,.t 1)]),oo 3 (.build [.bool false,.nsl 2,.bool false,.nsl 1] [(0,1,.c (.bool true)),(1,1,.t 2),(2,1,.c (.bool true))]),on (.store 4 (.t 0) (.t 3))] [0] .ret),none⟩
def F58:IFn:=⟨1,[.t 2],sr [oo 1 (.box (.t 0)),oo 2 (.mov (cb false))] [1] (.seq (sr [oa 7 1 1,ol 8 7,oo 9 (.len false (.t 8)),oo 10 (.mov (ci 0))] [1,8,9,10] (.block 0 (.loop [1,8,9,10] (sr [ob 11 .lss 10 9] [1,8,9,10,11] (.seq (.cond (.t 11) .skip (.exit 0)) (.seq (.block 1 (sr [om 12 10,oo 13 (.isl 2 (.t 8) (.t 10)),oo 14 (.load true 2 (.t 13)),oo 4 (.alloc [.int .i64 0,.int .i64 0]),om 3 12,on (.store 2 (.t 4) (.t 14))] [1,3,4,8,9,10] (.seq (.rgn true [oa 15 0 4,od 16 (.load false 1 (.t 15)) [0],oa 17 1 4,od 18 (.load false 1 (.t 17)) [2],od 19 (.bin .gtr 0 (.t 16) (.t 18)) [0,1,2,3],od 20 (.mov (.t 19)) [0,1,2,3,4],oe 21 (.mov (.t 3)) 20 false [0,1,2,3,4,5],oe 22 (.bin .gtr 0 (.t 21) (ci 0)) 20 false [0,1,2,3,4,5,6],oe 23 (.mov (.t 22)) 20 false [0,1,2,3,4,5,6,7],oe 24 (.fadr 0 (.t 4)) 23 true [0,1,2,3,4,5,6,7,8],oe 25 (.load false 1 (.t 24)) 23 true [0,1,2,3,4,5,6,7,8,9],oe 26 (.fadr 1 (.t 1)) 23 true [0,1,2,3,4,5,6,7,8],oe 27 (.load false 1 (.t 26)) 23 true [0,1,2,3,4,5,6,7,8,11],oe 28 (.mov (.t 3)) 23 true [0,1,2,3,4,5,6,7,8],oe 29 (.bin .sub 0 (.t 28) (ci 1)) 23 true [0,1,2,3,4,5,6,7,8,13],oe 30 (.isl 2 (.t 27) (.t 29)) 23 true [0,1,2,3,4,5,6,7,8,11,12,13,14],oe 31 (.fadr 1 (.t 30)) 23 true [0,1,2,3,4,5,6,7,8,11,12,13,14,15],oe 32 (.load false 1 (.t 31)) 23 true [0,1,2,3,4,5,6,7,8,11,12,13,14,15,16],oe 33 (.bin .leq 0 (.t 25) (.t 32)) 23 true [0,1,2,3,4,5,6,7,8,9,10,11,12,13,14,15,16,17],oe 34 (.mov (.t 33)) 23 true [0,1,2,3,4,5,6,7,8,9,10,11,12,13,14,15,16,17,18],oe 35 (.fadr 0 (.t 4)) 34 false [0,1,2,3,4,5,6,7,8,9,10,11,12,13,14,15,16,17,18,19],oe 36 (.load false 1 (.t 35)) 34 false [0,1,2,3,4,5,6,7,8,9,10,11,12,13,14,15,16,17,18,19,20],oe 37 (.bin .sub 0 (.t 36) (ci 1)) 34 false [0,1,2,3,4,5,6,7,8,9,10,11,12,13,14,15,16,17,18,19,20,21],oe 38 (.fadr 1 (.t 1)) 34 false [0,1,2,3,4,5,6,7,8,9,10,11,12,13,14,15,16,17,18,19],oe 39 (.load false 1 (.t 38)) 34 false [0,1,2,3,4,5,6,7,8,9,10,11,12,13,14,15,16,17,18,19,23],oe 40 (.mov (.t 3)) 34 false [0,1,2,3,4,5,6,7,8,9,10,11,12,13,14,15,16,17,18,19],oe 41 (.bin .sub 0 (.t 40) (ci 1)) 34 false [0,1,2,3,4,5,6,7,8,9,10,11,12,13,14,15,16,17,18,19,25],oe 42 (.isl 2 (.t 39) (.t 41)) 34 false [0,1,2,3,4,5,6,7,8,9,10,11,12,13,14,15,16,17,18,19,23,24,25,26],oe 43 (.fadr 1 (.t 42)) 34 false [0,1,2,3,4,5,6,7,8,9,10,11,12,13,14,15,16,17,18,19,23,24,25,26,27],oe 44 (.load false 1 (.t 43)) 34 false [0,1,2,3,4,5,6,7,8,9,10,11,12,13,14,15,16,17,18,19,23,24,25,26,27,28],oe 45 (.bin .eql 0 (.t 37) (.t 44)) 34 false [0,1,2,3,4,5,6,7,8,9,10,11,12,13,14,15,16,17,18,19,20,21,22,23,24,25,26,27,28,29],oe 46 (.pick (.t 34) (cb true) (.t 45)) 23 true [0,1,2,3,4,5,6,7,8,9,10,11,12,13,14,15,16,17,18,19,20,21,22,23,24,25,26,27,28,29,30],oe 47 (.pick (.t 23) (.t 46) (cb false)) 20 false [0,1,2,3,4,5,6,7,8,9,10,11,12,13,14,15,16,17,18,19,20,21,22,23,24,25,26,27,28,29,30,31],od 48 (.pick (.t 20) (cb true) (.t 47)) [0,1,2,3,4,5,6,7,8,9,10,11,12,13,14,15,16,17,18,19,20,21,22,23,24,25,26,27,28,29,30,31,32]] [1,8,9,10,48]) (.cond (.t 48) (sr [oo 2 (.mov (cb false))] [2] .ret) .skip)))) (rg [oo 49 (.bin .add 0 (.t 10) (ci 1)),om 10 49] [1,8,9,10]))))))) (.seq (sr [oa 50 3 1,ol 51 50,oo 52 (.len false (.t 51)),oo 53 (.mov (ci 0))] [1,51,52,53] (.block 2 (.loop [1,51,52,53] (sr [ob 54 .lss 53 52] [1,51,52,53,54] (.seq (.cond (.t 54) .skip (.exit 2)) (.seq (.block 3 (sr [om 55 53,oo 56 (.isl 1 (.t 51) (.t 53)),ol 57 56,om 5 55,om 6 57] [1,5,6,51,52,53] (sr [om 58 6,oo 59 (.len true (.t 58)),oo 60 (.bin .gtr 0 (.t 59) (ci 8)),om 61 60,og 62 (.mov (.t 5)) 61 false,og 63 (.bin .gtr 0 (.t 62) (ci 0)) 61 false,og 64 (.mov (.t 63)) 61 false,og 65 (.fadr 3 (.t 1)) 64 true,og 66 (.load false 1 (.t 65)) 64 true,og 67 (.mov (.t 5)) 64 true,og 68 (.bin .sub 0 (.t 67) (ci 1)) 64 true,og 69 (.isl 1 (.t 66) (.t 68)) 64 true,og 70 (.load false 1 (.t 69)) 64 true,og 71 (.mov (.t 6)) 64 true,og 72 (.bin .geq 0 (.t 70) (.t 71)) 64 true,og 73 (.pick (.t 64) (.t 72) (cb false)) 61 false,oo 74 (.pick (.t 61) (cb true) (.t 73))] [1,51,52,53,74] (.cond (.t 74) (sr [oo 2 (.mov (cb false))] [2] .ret) .skip)))) (rg [oo 75 (.bin .add 0 (.t 53) (ci 1)),om 53 75] [1,51,52,53]))))))) (sr [oo 2 (.mov (cb true))] [2] .ret))),none⟩
def F59:IFn:=⟨1,[.t 2],sr [oo 1 (.box (.t 0)),oo 2 (.mov (cb false))] [1] (.seq (sr [oo 5 (.load true 16 (.t 1)),oo 6 (.mov (ci 0))] [5,6] (.block 0 (.loop [5,6] (sr [oo 7 (.bin .lss 0 (.t 6) (ci 4))] [5,6,7] (.seq (.cond (.t 7) .skip (.exit 0)) (.seq (.block 1 (sr [oo 8 (.xarr true 4 4 (.t 5) (.t 6)),oo 4 (.alloc [.bool false,.nsl 2,.bool false,.nsl 1]),on (.store 4 (.t 4) (.t 8))] [4,5,6] (sr [oo 9 (.load true 4 (.t 4)),oo 10 (.call 0 (.c (.fn 66 [])) [.t 9])] [5,6,10] (.cond (.t 10) (sr [oo 2 (.mov (cb true))] [2] .ret) .skip)))) (rg [oo 11 (.bin .add 0 (.t 6) (ci 1)),om 6 11] [5,6]))))))) (sr [oo 2 (.mov (cb false))] [2] .ret)),none⟩
def F60:IFn:=⟨3,[.t 6],sr [oo 6 (.mov (cb false))] [0,1,2] (.seq (.rgn true [om 7 0,od 8 (.nchk (.t 7)) [0],od 9 (.load true 16 (.t 8)) [0,1],om 10 1,od 11 (.nchk (.t 10)) [3],od 12 (.load true 16 (.t 11)) [3,4],od 13 (.call 0 (.c (.fn 67 [])) [.t 9,.t 12]) [0,1,2,3,4,5],od 14 (.mov (.t 13)) [0,1,2,3,4,5,6],oe 15 (.mov (.t 2)) 14 true [0,1,2,3,4,5,6,7],oe 16 (.mov (.t 15)) 14 true [0,1,2,3,4,5,6,7,8],oe 17 (.mov (.t 1)) 16 false [0,1,2,3,4,5,6,7,8,9],oe 18 (.nchk (.t 17)) 16 false [0,1,2,3,4,5,6,7,8,9,10],oe 19 (.load true 16 (.t 18)) 16 false [0,1,2,3,4,5,6,7,8,9,10,11],oe 20 (.mov (.t 0)) 16 false [0,1,2,3,4,5,6,7,8,9],oe 21 (.nchk (.t 20)) 16 false [0,1,2,3,4,5,6,7,8,9,13],oe 22 (.load true 16 (.t 21)) 16 false [0,1,2,3,4,5,6,7,8,9,13,14],oe 23 (.call 0 (.c (.fn 67 [])) [.t 19,.t 22]) 16 false [0,1,2,3,4,5,6,7,8,9,10,11,12,13,14,15],oe 24 (.un .not (.t 23)) 16 false [0,1,2,3,4,5,6,7,8,9,10,11,12,13,14,15,16],oe 25 (.pick (.t 16) (cb true) (.t 24)) 14 true [0,1,2,3,4,5,6,7,8,9,10,11,12,13,14,15,16,17],od 26 (.pick (.t 14) (.t 25) (cb false)) [0,1,2,3,4,5,6,7,8,9,10,11,12,13,14,15,16,17,18],od 6 (.mov (.t 26)) [0,1,2,3,4,5,6,7,8,9,10,11,12,13,14,15,16,17,18,19]] [6]) .ret),none⟩
def F61:IFn:=⟨5,[],sr [oo 10 (.mov (cb true))] [0,1,2,3,4,10] (sr [oo 11 (.mov (cb true))] [0,1,2,3,4,10,11] (.block 0 (.loop [0,1,2,3,4,10,11] (.block 1 (sr [om 21 2,om 22 1,ob 23 .sub 21 22,om 12 23] [0,1,2,3,4,10,11,12] (.seq (sr [om 24 12,oo 25 (.bin .leq 0 (.t 24) (ci 12))] [0,1,2,3,4,10,11,12,25] (.cond (.t 25) (sr [om 26 0,om 27 1,om 28 2,om 29 4,oo 30 (.call 1 (.c (.fn 68 [])) [.t 26,.t 27,.t 28,.t 29])] [] .ret) .skip)) (.seq (sr [om 31 3,oo 32 (.bin .eql 0 (.t 31) (ci 0))] [0,1,2,3,4,10,11,12,32] (.cond (.t 32) (sr [om 33 0,om 34 1,om 35 2,om 36 4,oo 37 (.call 1 (.c (.fn 80 [])) [.t 33,.t 34,.t 35,.t 36])] [] .ret) .skip)) (.seq (sr [om 38 10,oo 39 (.un .not (.t 38))] [0,1,2,3,4,10,11,12,39] (.cond (.t 39) (sr [om 40 0,om 41 1,om 42 2,om 43 4,oo 44 (.call 1 (.c (.fn 79 [])) [.t 40,.t 41,.t 42,.t 43])] [0,1,2,3,4,10,11,12] (rg [om 45 3,oo 46 (.bin .sub 0 (.t 45) (ci 1)),om 3 46] [0,1,2,3,4,10,11,12])) .skip)) (sr [om 48 0,om 49 1,om 50 2,om 51 4,oo 52 (.call 1 (.c (.fn 78 [])) [.t 48,.t 49,.t 50,.t 51]),om 47 52,oo 53 (.ext (.t 47) 0),oo 54 (.ext (.t 47) 1),om 13 53,om 14 54] [0,1,2,3,4,10,11,12,13,14] (.seq (sr [om 55 14,oo 56 (.bin .eql 0 (.t 55) (ci 2))] [0,1,2,3,4,10,11,12,13,14,56] (.cond (.t 56) (sr [om 57 0,om 58 1,om 59 2,om 60 4,oo 61 (.call 1 (.c (.fn 77 [])) [.t 57,.t 58,.t 59,.t 60])] [0,1,2,3,4,10,11,12,13] (sr [om 62 2,oo 63 (.bin .sub 0 (.t 62) (ci 1)),om 64 13,om 65 1,ob 66 .sub 64 65,ob 67 .sub 63 66,om 13 67] [0,1,2,3,4,10,11,12,13] (rg [oo 14 (.mov (ci 1))] [0,1,2,3,4,10,11,12,13,14]))) .skip)) (.seq (sr [om 68 10,om 69 68,og 70 (.mov (.t 11)) 69 true,oo 71 (.pick (.t 69) (.t 70) (cb false)),om 72 71,og 73 (.mov (.t 14)) 72 true,og 74 (.bin .eql 0 (.t 73) (ci 1)) 72 true,oo 75 (.pick (.t 72) (.t 74) (cb false))] [0,1,2,3,4,10,11,12,13,75] (.cond (.t 75) (sr [om 76 0,om 77 1,om 78 2,om 79 4,oo 80 (.call 1 (.c (.fn 76 [])) [.t 76,.t 77,.t 78,.t 79])] [0,1,2,3,4,10,11,12,13,80] (.cond (.t 80) .ret .skip)) .skip)) (.seq (.seq (.rgn true [om 81 1,od 82 (.bin .gtr 0 (.t 81) (ci 0)) [0],od 83 (.mov (.t 82)) [0,1],oe 84 (.mov (.t 4)) 83 true [0,1,2],oe 85 (.mov (.t 0)) 83 true [0,1,2],oe 86 (.mov (.t 1)) 83 true [0,1,2],oe 87 (.bin .sub 0 (.t 86) (ci 1)) 83 true [0,1,2,5],oe 88 (.isl 2 (.t 85) (.t 87)) 83 true [0,1,2,4,5,6],oe 89 (.load true 2 (.t 88)) 83 true [0,1,2,4,5,6,7],oe 90 (.mov (.t 0)) 83 true [0,1,2],oe 91 (.mov (.t 13)) 83 true [0,1,2],oe 92 (.isl 2 (.t 90) (.t 91)) 83 true [0,1,2,9,10],oe 93 (.load true 2 (.t 92)) 83 true [0,1,2,9,10,11],oe 94 (.call 0 (.t 84) [.t 89,.t 93]) 83 true [0,1,2,3,4,5,6,7,8,9,10,11,12],oe 95 (.bin .lss 0 (.t 94) (ci 0)) 83 true [0,1,2,3,4,5,6,7,8,9,10,11,12,13],oe 96 (.un .not (.t 95)) 83 true [0,1,2,3,4,5,6,7,8,9,10,11,12,13,14],od 97 (.pick (.t 83) (.t 96) (cb false)) [0,1,2,3,4,5,6,7,8,9,10,11,12,13,14,15]] [0,1,2,3,4,10,11,12,13,97]) (.cond (.t 97) (sr [om 98 0,om 99 1,om 100 2,om 101 13,om 102 4,oo 103 (.call 1 (.c (.fn 75 [])) [.t 98,.t 99,.t 100,.t 101,.t 102]),om 15 103] [0,2,3,4,10,11,15] (sr [om 104 15,om 1 104] [0,1,2,3,4,10,11] (.exit 1))) .skip)) (sr [om 106 0,om 107 1,om 108 2,om 109 13,om 110 4,oo 111 (.call 1 (.c (.fn 74 [])) [.t 106,.t 107,.t 108,.t 109,.t 110]),om 105 111,oo 112 (.ext (.t 105) 0),oo 113 (.ext (.t 105) 1),om 16 112,om 17 113] [0,1,2,3,4,12,16,17] (sr [om 114 17,om 11 114] [0,1,2,3,4,11,12,16] (sr [om 115 16,om 116 1,ob 117 .sub 115 116,om 118 2,om 119 16,ob 120 .sub 118 119,om 18 117,om 19 120] [0,1,2,3,4,11,12,16,18,19] (sr [om 121 12,oo 122 (.bin .quo 0 (.t 121) (ci 8)),om 20 122] [0,1,2,3,4,11,16,18,19,20] (sr [om 123 18,om 124 19,ob 125 .lss 123 124] [0,1,2,3,4,11,16,18,19,20,125] (.cond (.t 125) (sr [om 126 18,om 127 20,ob 128 .geq 126 127,om 10 128] [0,1,2,3,4,10,11,16] (sr [om 129 0,om 130 1,om 131 16,om 132 3,om 133 4,oo 134 (.call 1 (.c (.fn 61 [])) [.t 129,.t 130,.t 131,.t 132,.t 133])] [0,2,3,4,10,11,16] (rg [om 135 16,oo 136 (.bin .add 0 (.t 135) (ci 1)),om 1 136] [0,1,2,3,4,10,11]))) (sr [om 137 19,om 138 20,ob 139 .geq 137 138,om 10 139] [0,1,2,3,4,10,11,16] (sr [om 140 0,om 141 16,oo 142 (.bin .add 0 (.t 141) (ci 1)),om 143 2,om 144 3,om 145 4,oo 146 (.call 1 (.c (.fn 61 [])) [.t 140,.t 142,.t 143,.t 144,.t 145])] [0,1,3,4,10,11,16] (rg [om 147 16,om 2 147] [0,1,2,3,4,10,11]))))))))))))))))))))),none⟩
def F62:IFn:=⟨1,[.t 2],sr [oo 2 (.mov (ci 0))] [0] (.seq (.cond (cb false) (sr [om 3 0,oo 4 (.cvi .u32 (.t 3)),oo 5 (.call 0 (.c (.fn 69 [])) [.t 4]),om 2 5] [2] .ret) .skip) (sr [om 6 0,oo 7 (.call 0 (.c (.fn 70 [])) [.t 6]),om 2 7] [2] .ret)),none⟩
def F63:IFn:=⟨1,[.t 2],sr [oo 2 (.mov (cb false))] [0] (sr [om 3 0,om 4 0,ob 5 .neq 3 4,om 2 5] [2] .ret),none⟩
def F64:IFn:=⟨2,[.t 4],sr [oo 4 (.mov (ci 0))] [0,1] (.seq (sr [om 6 0,oo 7 (.len false (.t 6)),oo 8 (.mov (ci 0))] [0,1,7,8] (.block 0 (.loop [0,1,7,8] (sr [ob 9 .lss 8 7] [0,1,7,8,9] (.seq (.cond (.t 9) .skip (.exit 0)) (.seq (.block 1 (sr [om 10 8,om 5 10] [0,1,5,7,8] (sr [om 11 1,om 12 0,om 13 5,oo 14 (.isl 1 (.t 12) (.t 13)),ol 15 14,ob 16 .eql 11 15] [0,1,5,7,8,16] (.cond (.t 16) (sr [om 17 5,om 4 17] [4] .ret) .skip)))) (rg [oo 18 (.bin .add 0 (.t 8) (ci 1)),om 8 18] [0,1,7,8]))))))) (sr [oo 4 (.mov (ci (-1)))] [4] .ret)),none⟩
def F65:IFn:=⟨4,[],sr [oo 8 (.mov (cb true))] [0,1,2,3,8] (sr [oo 9 (.mov (cb true))] [0,1,2,3,8,9] (.block 0 (.loop [0,1,2,3,8,9] (.block 1 (sr [om 19 2,om 20 1,ob 21 .sub 19 20,om 10 21] [0,1,2,3,8,9,10] (.seq (sr [om 22 10,oo 23 (.bin .leq 0 (.t 22) (ci 12))] [0,1,2,3,8,9,10,23] (.cond (.t 23) (sr [om 24 0,om 25 1,om 26 2,oo 27 (.call 1 (.c (.fn 71 [])) [.t 24,.t 25,.t 26])] [] .ret) .skip)) (.seq (sr [om 28 3,oo 29 (.bin .eql 0 (.t 28) (ci 0))] [0,1,2,3,8,9,10,29] (.cond (.t 29) (sr [om 30 0,om 31 1,om 32 2,oo 33 (.call 1 (.c (.fn 87 [])) [.t 30,.t 31,.t 32])] [] .ret) .skip)) (.seq (sr [om 34 8,oo 35 (.un .not (.t 34))] [0,1,2,3,8,9,10,35] (.cond (.t 35) (sr [om 36 0,om 37 1,om 38 2,oo 39 (.call 1 (.c (.fn 86 [])) [.t 36,.t 37,.t 38])] [0,1,2,3,8,9,10] (rg [om 40 3,oo 41 (.bin .sub 0 (.t 40) (ci 1)),om 3 41] [0,1,2,3,8,9,10])) .skip)) (sr [om 43 0,om 44 1,om 45 2,oo 46 (.call 1 (.c (.fn 85 [])) [.t 43,.t 44,.t 45]),om 42 46,oo 47 (.ext (.t 42) 0),oo 48 (.ext (.t 42) 1),om 11 47,om 12 48] [0,1,2,3,8,9,10,11,12] (.seq (sr [om 49 12,oo 50 (.bin .eql 0 (.t 49) (ci 2))] [0,1,2,3,8,9,10,11,12,50] (.cond (.t 50) (sr [om 51 0,om 52 1,om 53 2,oo 54 (.call 1 (.c (.fn 84 [])) [.t 51,.t 52,.t 53])] [0,1,2,3,8,9,10,11] (sr [om 55 2,oo 56 (.bin .sub 0 (.t 55) (ci 1)),om 57 11,om 58 1,ob 59 .sub 57 58,ob 60 .sub 56 59,om 11 60] [0,1,2,3,8,9,10,11] (rg [oo 12 (.mov (ci 1))] [0,1,2,3,8,9,10,11,12]))) .skip)) (.seq (sr [om 61 8,om 62 61,og 63 (.mov (.t 9)) 62 true,oo 64 (.pick (.t 62) (.t 63) (cb false)),om 65 64,og 66 (.mov (.t 12)) 65 true,og 67 (.bin .eql 0 (.t 66) (ci 1)) 65 true,oo 68 (.pick (.t 65) (.t 67) (cb false))] [0,1,2,3,8,9,10,11,68] (.cond (.t 68) (sr [om 69 0,om 70 1,om 71 2,oo 72 (.call 1 (.c (.fn 83 [])) [.t 69,.t 70,.t 71])] [0,1,2,3,8,9,10,11,72] (.cond (.t 72) .ret .skip)) .skip)) (.seq (.seq (.rgn true [om 73 1,od 74 (.bin .gtr 0 (.t 73) (ci 0)) [0],od 75 (.mov (.t 74)) [0,1],oe 76 (.mov (.t 0)) 75 true [0,1,2],oe 77 (.mov (.t 1)) 75 true [0,1,2],oe 78 (.bin .sub 0 (.t 77) (ci 1)) 75 true [0,1,2,4],oe 79 (.isl 1 (.t 76) (.t 78)) 75 true [0,1,2,3,4,5],oe 80 (.load false 1 (.t 79)) 75 true [0,1,2,3,4,5,6],oe 81 (.mov (.t 0)) 75 true [0,1,2],oe 82 (.mov (.t 11)) 75 true [0,1,2],oe 83 (.isl 1 (.t 81) (.t 82)) 75 true [0,1,2,8,9],oe 84 (.load false 1 (.t 83)) 75 true [0,1,2,8,9,10],oe 85 (.call 0 (.c (.fn 72 [])) [.t 80,.t 84]) 75 true [0,1,2,3,4,5,6,7,8,9,10,11],oe 86 (.un .not (.t 85)) 75 true [0,1,2,3,4,5,6,7,8,9,10,11,12],od 87 (.pick (.t 75) (.t 86) (cb false)) [0,1,2,3,4,5,6,7,8,9,10,11,12,13]] [0,1,2,3,8,9,10,11,87]) (.cond (.t 87) (sr [om 88 0,om 89 1,om 90 2,om 91 11,oo 92 (.call 1 (.c (.fn 82 [])) [.t 88,.t 89,.t 90,.t 91]),om 13 92] [0,2,3,8,9,13] (sr [om 93 13,om 1 93] [0,1,2,3,8,9] (.exit 1))) .skip)) (sr [om 95 0,om 96 1,om 97 2,om 98 11,oo 99 (.call 1 (.c (.fn 81 [])) [.t 95,.t 96,.t 97,.t 98]),om 94 99,oo 100 (.ext (.t 94) 0),oo 101 (.ext (.t 94) 1),om 14 100,om 15 101] [0,1,2,3,10,14,15] (sr [om 102 15,om 9 102] [0,1,2,3,9,10,14] (sr [om 103 14,om 104 1,ob 105 .sub 103 104,om 106 2,om 107 14,ob 108 .sub 106 107,om 16 105,om 17 108] [0,1,2,3,9,10,14,16,17] (sr [om 109 10,oo 110 (.bin .quo 0 (.t 109) (ci 8)),om 18 110] [0,1,2,3,9,14,16,17,18] (sr [om 111 16,om 112 17,ob 113 .lss 111 112] [0,1,2,3,9,14,16,17,18,113] (.cond (.t 113) (sr [om 114 16,om 115 18,ob 116 .geq 114 115,om 8 116] [0,1,2,3,8,9,14] (sr [om 117 0,om 118 1,om 119 14,om 120 3,oo 121 (.call 1 (.c (.fn 65 [])) [.t 117,.t 118,.t 119,.t 120])] [0,2,3,8,9,14] (rg [om 122 14,oo 123 (.bin .add 0 (.t 122) (ci 1)),om 1 123] [0,1,2,3,8,9]))) (sr [om 124 17,om 125 18,ob 126 .geq 124 125,om 8 126] [0,1,2,3,8,9,14] (sr [om 127 0,om 128 14,oo 129 (.bin .add 0 (.t 128) (ci 1)),om 130 2,om 131 3,oo 132 (.call 1 (.c (.fn 65 [])) [.t 127,.t 129,.t 130,.t 131])] [0,1,3,8,9,14] (rg [om 133 14,om 2 133] [0,1,2,3,8,9]))))))))))))))))))))),none⟩
def F66:IFn:=⟨1,[.t 2],sr [oo 1 (.box (.t 0)),oo 2 (.mov (cb false))] [1] (sr [oa 3 0 1,ol 4 3,oo 5 (.un .not (.t 4)),om 6 5,og 7 (.fadr 1 (.t 1)) 6 true,og 8 (.load false 1 (.t 7)) 6 true,og 9 (.len false (.t 8)) 6 true,og 10 (.bin .eql 0 (.t 9) (ci 0)) 6 true,oo 11 (.pick (.t 6) (.t 10) (cb false)),om 12 11,og 13 (.fadr 2 (.t 1)) 12 true,og 14 (.load false 1 (.t 13)) 12 true,og 15 (.un .not (.t 14)) 12 true,oo 16 (.pick (.t 12) (.t 15) (cb false)),om 17 16,og 18 (.fadr 3 (.t 1)) 17 true,og 19 (.load false 1 (.t 18)) 17 true,og 20 (.len false (.t 19)) 17 true,og 21 (.bin .eql 0 (.t 20) (ci 0)) 17 true,oo 22 (.pick (.t 17) (.t 21) (cb false)),om 2 22] [2] .ret),none⟩
def F67:IFn:=⟨2,[.t 4],sr [oo 2 (.box (.t 0)),oo 3 (.box (.t 1)),oo 4 (.mov (cb false))] [2,3] (.seq (sr [oo 6 (.load true 16 (.t 2)),oo 7 (.call 0 (.c (.fn 59 [])) [.t 6])] [2,3,7] (.cond (.t 7) (sr [oo 4 (.mov (cb true))] [4] .ret) .skip)) (.seq (sr [oo 8 (.mov (ci 0))] [2,3,8] (.block 0 (.loop [2,3,8] (sr [oo 9 (.bin .lss 0 (.t 8) (ci 4))] [2,3,8,9] (.seq (.cond (.t 9) .skip (.exit 0)) (.seq (.block 1 (sr [om 10 8,om 5 10] [2,3,5,8] (.seq (.rgn true [om 11 5,od 12 (.iarr 4 4 (.t 2) (.t 11)) [0],od 13 (.load true 4 (.t 12)) [0,1],om 14 5,od 15 (.iarr 4 4 (.t 3) (.t 14)) [3],od 16 (.load true 4 (.t 15)) [3,4],od 17 (.call 0 (.c (.fn 73 [])) [.t 13,.t 16]) [0,1,2,3,4,5],od 18 (.un .not (.t 17)) [0,1,2,3,4,5,6]] [2,3,8,18]) (.cond (.t 18) (sr [oo 4 (.mov (cb false))] [4] .ret) .skip)))) (rg [oo 19 (.bin .add 0 (.t 8) (ci 1)),om 8 19] [2,3,8]))))))) (sr [oo 4 (.mov (cb true))] [4] .ret))),none⟩
def F68:IFn:=⟨4,[],sr [om 10 1,oo 11 (.bin .add 0 (.t 10) (ci 1)),om 8 11] [0,1,2,3,8] (.block 0 (.loop [0,1,2,3,8] (.seq (sr [om 12 8,om 13 2,ob 14 .lss 12 13] [0,1,2,3,8,14] (.cond (.t 14) .skip (.exit 0))) (.seq (.block 1 (sr [om 17 8,om 9 17] [0,1,2,3,8,9] (.block 2 (.loop [0,1,2,3,8,9] (.seq (.seq (.rgn true [om 18 9,om 19 1,od 20 (.bin .gtr 0 (.t 18) (.t 19)) [0,1],od 21 (.mov (.t 20)) [0,1,2],oe 22 (.mov (.t 3)) 21 true [0,1,2,3],oe 23 (.mov (.t 0)) 21 true [0,1,2,3],oe 24 (.mov (.t 9)) 21 true [0,1,2,3],oe 25 (.isl 2 (.t 23) (.t 24)) 21 true [0,1,2,3,5,6],oe 26 (.load true 2 (.t 25)) 21 true [0,1,2,3,5,6,7],oe 27 (.mov (.t 0)) 21 true [0,1,2,3],oe 28 (.mov (.t 9)) 21 true [0,1,2,3],oe 29 (.bin .sub 0 (.t 28) (ci 1)) 21 true [0,1,2,3,10],oe 30 (.isl 2 (.t 27) (.t 29)) 21 true [0,1,2,3,9,10,11],oe 31 (.load true 2 (.t 30)) 21 true [0,1,2,3,9,10,11,12],oe 32 (.call 0 (.t 22) [.t 26,.t 31]) 21 true [0,1,2,3,4,5,6,7,8,9,10,11,12,13],oe 33 (.bin .lss 0 (.t 32) (ci 0)) 21 true [0,1,2,3,4,5,6,7,8,9,10,11,12,13,14],od 34 (.pick (.t 21) (.t 33) (cb false)) [0,1,2,3,4,5,6,7,8,9,10,11,12,13,14,15]] [0,1,2,3,8,9,34]) (.cond (.t 34) .skip (.exit 2))) (.seq (.block 3 (.rgn true [om 37 0,om 38 9,om 39 0,om 40 9,od 41 (.bin .sub 0 (.t 40) (ci 1)) [3],om 42 0,om 43 9,od 44 (.bin .sub 0 (.t 43) (ci 1)) [6],od 45 (.isl 2 (.t 42) (.t 44)) [5,6,7],od 46 (.load true 2 (.t 45)) [5,6,7,8],om 47 0,om 48 9,od 49 (.isl 2 (.t 47) (.t 48)) [10,11],od 50 (.load true 2 (.t 49)) [10,11,12],od 51 (.isl 2 (.t 37) (.t 38)) [0,1,5,6,7,8,9,10,11,12,13],⟨none,.store 2 (.t 51) (.t 46),none,[0,1,5,6,7,8,9,10,11,12,13,14]⟩,od 52 (.isl 2 (.t 39) (.t 41)) [0,1,2,3,4,5,6,7,8,9,10,11,12,13,14,15],⟨none,.store 2 (.t 52) (.t 50),none,[0,1,2,3,4,5,6,7,8,9,10,11,12,13,14,15,16]⟩] [0,1,2,3,8,9])) (rg [om 35 9,oo 36 (.bin .sub 0 (.t 35) (ci 1)),om 9 36] [0,1,2,3,8,9]))))))) (rg [om 15 8,oo 16 (.bin .add 0 (.t 15) (ci 1)),om 8 16] [0,1,2,3,8]))))),none⟩
def F69:IFn:=⟨1,[.t 2],sr [oo 2 (.mov (ci 0))] [0,2] (.seq (sr [om 3 0,oo 4 (.bin .geq 0 (.t 3) (.c (.int .u32 (65536))))] [0,2,4] (.cond (.t 4) (sr [om 5 0,oo 6 (.bin .shr 0 (.t 5) (.c (.int .u64 (16)))),om 0 6] [0] (rg [oo 2 (.mov (ci 16))] [0,2])) .skip)) (.seq (sr [om 7 0,oo 8 (.bin .geq 0 (.t 7) (.c (.int .u32 (256))))] [0,2,8] (.cond (.t 8) (sr [om 9 0,oo 10 (.bin .shr 0 (.t 9) (.c (.int .u64 (8)))),om 0 10] [0,2] (rg [om 11 2,oo 12 (.bin .add 0 (.t 11) (ci 8)),om 2 12] [0,2])) .skip)) (sr [om 13 2,om 14 0,oo 15 (.cvi .u8 (.t 14)),⟨some 16,.xstr (.c (.str ⟨#[0,1,2,2,3,3,3,3,4,4,4,4,4,4,4,4,5,5,5,5,5,5,5,5,5,5,5,5,5,5,5,5,6,6,6,6,6,6,6,6,6,6,6,6,6,6,6,6,6,6,6,6,6,6,6,6,6,6,6,6,6,6,6,6,7,7,7,7,7,7,7,7,7,7,7,7,7,7,7,7,7,7,7,7,7,7,7,7,7,7,7,7,7,7,7,7,7,7,7,7,7,7,7,7,7,7,7,7,7,7,7,7,7,7,7,7,7,7,7,7,7,7,7,7,7,7,7,7,8,8,8,8,8,8,8,8,8,8,8,8,8,8,8,8,8,8,8,8,8,8,8,8,8,8,8,8,8,8,8,8,8,8,8,8,8,8,8,8,8,8,8,8,8,8,8,8,8,8,8,8,8,8,8,8,8,8,8,8,8,8,8,8,8,8,8,8,8,8,8,8,8,8,8,8,8,8,8,8,8,8,8,8,8,8,8,8,8,8,8,8,8,8,8,8,8,8,8,8,8,8,8,8,8,8,8,8,8,8,8,8,8,8,8,8,8,8,8,8,8,8,8,8,8,8,8,8]⟩)) (.t 15),none,[]⟩,oo 17 (.cvi .i64 (.t 16)),ob 18 .add 13 17,om 2 18] [2] .ret))),none⟩
def F70:IFn:=⟨1,[.t 2],sr [oo 2 (.mov (ci 0))] [0,2] (.seq (sr [om 3 0,oo 4 (.bin .geq 0 (.t 3) (.c (.int .u64 (4294967296))))] [0,2,4] (.cond (.t 4) (sr [om 5 0,oo 6 (.bin .shr 0 (.t 5) (.c (.int .u64 (32)))),om 0 6] [0] (rg [oo 2 (.mov (ci 32))] [0,2])) .skip)) (.seq (sr [om 7 0,oo 8 (.bin .geq 0 (.t 7) (.c (.int .u64 (65536))))] [0,2,8] (.cond (.t 8) (sr [om 9 0,oo 10 (.bin .shr 0 (.t 9) (.c (.int .u64 (16)))),om 0 10] [0,2] (rg [om 11 2,oo 12 (.bin .add 0 (.t 11) (ci 16)),om 2 12] [0,2])) .skip)) (.seq (sr [om 13 0,oo 14 (.bin .geq 0 (.t 13) (.c (.int .u64 (256))))] [0,2,14] (.cond (.t 14) (sr [om 15 0,oo 16 (.bin .shr 0 (.t 15) (.c (.int .u64 (8)))),om 0 16] [0,2] (rg [om 17 2,oo 18 (.bin .add 0 (.t 17) (ci 8)),om 2 18] [0,2])) .skip)) (sr [om 19 2,om 20 0,oo 21 (.cvi .u8 (.t 20)),⟨some 22,.xstr (.c (.str ⟨#[0,1,2,2,3,3,3,3,4,4,4,4,4,4,4,4,5,5,5,5,5,5,5,5,5,5,5,5,5,5,5,5,6,6,6,6,6,6,6,6,6,6,6,6,6,6,6,6,6,6,6,6,6,6,6,6,6,6,6,6,6,6,6,6,7,7,7,7,7,7,7,7,7,7,7,7,7,7,7,7,7,7,7,7,7,7,7,7,7,7,7,7,7,7,7,7,7,7,7,7,7,7,7,7,7,7,7,7,7,7,7,7,7,7,7,7,7,7,7,7,7,7,7,7,7,7,7,7,8,8,8,8,8,8,8,8,8,8,8,8,8,8,8,8,8,8,8,8,8,8,8,8,8,8,8,8,8,8,8,8,8,8,8,8,8,8,8,8,8,8,8,8,8,8,8,8,8,8,8,8,8,8,8,8,8,8,8,8,8,8,8,8,8,8,8,8,8,8,8,8,8,8,8,8,8,8,8,8,8,8,8,8,8,8,8,8,8,8,8,8,8,8,8,8,8,8,8,8,8,8,8,8,8,8,8,8,8,8,8,8,8,8,8,8,8,8,8,8,8,8,8,8,8,8,8,8]⟩)) (.t 21),none,[]⟩,oo 23 (.cvi .i64 (.t 22)),ob 24 .add 19 23,om 2 24] [2] .ret)))),none⟩
def F71:IFn:=⟨3,[],sr [om 8 1,oo 9 (.bin .add 0 (.t 8) (ci 1)),om 6 9] [0,1,2,6] (.block 0 (.loop [0,1,2,6] (.seq (sr [om 10 6,om 11 2,ob 12 .lss 10 11] [0,1,2,6,12] (.cond (.t 12) .skip (.exit 0))) (.seq (.block 1 (sr [om 15 6,om 7 15] [0,1,2,6,7] (.block 2 (.loop [0,1,2,6,7] (.seq (.seq (.rgn true [om 16 7,om 17 1,od 18 (.bin .gtr 0 (.t 16) (.t 17)) [0,1],od 19 (.mov (.t 18)) [0,1,2],oe 20 (.mov (.t 0)) 19 true [0,1,2,3],oe 21 (.mov (.t 7)) 19 true [0,1,2,3],oe 22 (.isl 1 (.t 20) (.t 21)) 19 true [0,1,2,3,4,5],oe 23 (.load false 1 (.t 22)) 19 true [0,1,2,3,4,5,6],oe 24 (.mov (.t 0)) 19 true [0,1,2,3],oe 25 (.mov (.t 7)) 19 true [0,1,2,3],oe 26 (.bin .sub 0 (.t 25) (ci 1)) 19 true [0,1,2,3,9],oe 27 (.isl 1 (.t 24) (.t 26)) 19 true [0,1,2,3,8,9,10],oe 28 (.load false 1 (.t 27)) 19 true [0,1,2,3,8,9,10,11],oe 29 (.call 0 (.c (.fn 72 [])) [.t 23,.t 28]) 19 true [0,1,2,3,4,5,6,7,8,9,10,11,12],od 30 (.pick (.t 19) (.t 29) (cb false)) [0,1,2,3,4,5,6,7,8,9,10,11,12,13]] [0,1,2,6,7,30]) (.cond (.t 30) .skip (.exit 2))) (.seq (.block 3 (.rgn true [om 33 0,om 34 7,om 35 0,om 36 7,od 37 (.bin .sub 0 (.t 36) (ci 1)) [3],om 38 0,om 39 7,od 40 (.bin .sub 0 (.t 39) (ci 1)) [6],od 41 (.isl 1 (.t 38) (.t 40)) [5,6,7],od 42 (.load false 1 (.t 41)) [5,6,7,8],om 43 0,om 44 7,od 45 (.isl 1 (.t 43) (.t 44)) [10,11],od 46 (.load false 1 (.t 45)) [10,11,12],od 47 (.isl 1 (.t 33) (.t 34)) [0,1,5,6,7,8,9,10,11,12,13],⟨none,.store 1 (.t 47) (.t 42),none,[0,1,5,6,7,8,9,10,11,12,13,14]⟩,od 48 (.isl 1 (.t 35) (.t 37)) [0,1,2,3,4,5,6,7,8,9,10,11,12,13,14,15],⟨none,.store 1 (.t 48) (.t 46),none,[0,1,2,3,4,5,6,7,8,9,10,11,12,13,14,15,16]⟩] [0,1,2,6,7])) (rg [om 31 7,oo 32 (.bin .sub 0 (.t 31) (ci 1)),om 7 32] [0,1,2,6,7]))))))) (rg [om 13 6,oo 14 (.bin .add 0 (.t 13) (ci 1)),om 6 14] [0,1,2,6]))))),none⟩
def F72:IFn:=⟨2,[.t 4],sr [oo 4 (.mov (cb false))] [0,1] (sr [om 5 0,oo 6 (.call 0 (.c (.fn 88 [])) [.t 5]),om 7 6,og 8 (.mov (.t 1)) 7 true,og 9 (.call 0 (.c (.fn 88 [])) [.t 8]) 7 true,og 10 (.un .not (.t 9)) 7 true,oo 11 (.pick (.t 7) (.t 10) (cb false)),om 12 11,og 13 (.mov (.t 0)) 12 false,og 14 (.mov (.t 1)) 12 false,og 15 (.bin .lss 0 (.t 13) (.t 14)) 12 false,oo 16 (.pick (.t 12) (cb true) (.t 15)),om 4 16] [4] .ret),none⟩
def F73:IFn:=⟨2,[.t 4],sr [oo 2 (.box (.t 0)),oo 3 (.box (.t 1)),oo 4 (.mov (cb false))] [2,3] (.seq (.rgn true [oo 5 (.load true 4 (.t 2)),oo 6 (.load true 4 (.t 3)),od 7 (.call 3 (.c (.fn 23 [])) [.t 5,.t 6]) [0,1],oo 8 (.load true 4 (.t 3)),od 9 (.call 0 (.c (.fn 17 [])) [.t 7,.t 8]) [0,1,2,3],od 4 (.mov (.t 9)) [0,1,2,3,4]] [4]) .ret),none⟩
def F88:IFn:=⟨1,[.t 2],sr [oo 2 (.mov (cb false))] [0] (sr [om 3 0,om 4 0,ob 5 .neq 3 4,om 2 5] [2] .ret),none⟩
end Arb
namespace Arb
def G50:IFn:={ F50 with cl:=some (2000051,[]) }
def G55:IFn:={ F55 with cl:=some (1000000,[]) }
end Arb
namespace Arb
open Go

def F115:IFn:=⟨2,[.cell 4 true 16],sr [oo 2 (.box (.t 0)),oo 3 (.box (.t 1)),oo 4 (.alloc [.bool false,.nsl 2,.bool false,.nsl 1,.bool false,.nsl 2,.bool false,.nsl 1,.bool false,.nsl 2,.bool false,.nsl 1,.bool false,.nsl 2,.bool false,.nsl 1])] [2,3,4] (.seq (sr [oo 6 (.mov (ci 0))] [2,3,4,6] (.block 0 (.loop [2,3,4,6] (sr [oo 7 (.bin .lss 0 (.t 6) (ci 4))] [2,3,4,6,7] (.seq (.cond (.t 7) .skip (.exit 0)) (.seq (.block 1 (sr [om 8 6,om 5 8] [2,3,4,5,6] (.rgn true [om 9 5,om 10 5,od 11 (.iarr 4 4 (.t 2) (.t 10)) [1],od 12 (.load true 4 (.t 11)) [1,2],om 13 5,od 14 (.iarr 4 4 (.t 3) (.t 13)) [4],od 15 (.load true 4 (.t 14)) [4,5],od 16 (.call 3 (.c (.fn 126 [])) [.t 12,.t 15]) [1,2,3,4,5,6],od 17 (.iarr 4 4 (.t 4) (.t 9)) [0,1,2,3,4,5,6,7],⟨none,.store 4 (.t 17) (.t 16),none,[0,1,2,3,4,5,6,7,8]⟩] [2,3,4,6]))) (rg [oo 18 (.bin .add 0 (.t 6) (ci 1)),om 6 18] [2,3,4,6]))))))) (sr [oo 19 (.load true 16 (.t 4)),on (.store 16 (.t 4) (.t 19))] [4] .ret)),none⟩
def F116:IFn:=⟨2,[.t 4],sr [oo 2 (.box (.t 0)),oo 3 (.box (.t 1)),oo 4 (.mov (cb false))] [2,3] (.seq (sr [oo 7 (.load true 12 (.t 3)),oo 8 (.call 0 (.c (.fn 137 [])) [.t 7]),oo 9 (.un .not (.t 8))] [2,3,9] (.cond (.t 9) (sr [oo 4 (.mov (cb false))] [4] .ret) .skip)) (.seq (sr [oo 10 (.load true 16 (.t 2)),oo 11 (.mov (ci 0))] [3,10,11] (.block 0 (.loop [3,10,11] (sr [oo 12 (.bin .lss 0 (.t 11) (ci 4))] [3,10,11,12] (.seq (.cond (.t 12) .skip (.exit 0)) (.seq (.block 1 (sr [om 13 11,oo 14 (.xarr true 4 4 (.t 10) (.t 11)),oo 6 (.alloc [.bool false,.nsl 2,.bool false,.nsl 1]),om 5 13,on (.store 4 (.t 6) (.t 14))] [3,5,6,10,11] (.seq (.rgn true [oo 15 (.load true 4 (.t 6)),om 16 5,od 17 (.iarr 4 3 (.t 3) (.t 16)) [1],od 18 (.load true 3 (.t 17)) [1,2],od 19 (.call 0 (.c (.fn 127 [])) [.t 15,.t 18]) [0,1,2,3],od 20 (.un .not (.t 19)) [0,1,2,3,4]] [3,10,11,20]) (.cond (.t 20) (sr [oo 4 (.mov (cb false))] [4] .ret) .skip)))) (rg [oo 21 (.bin .add 0 (.t 11) (ci 1)),om 11 21] [3,10,11]))))))) (sr [oo 4 (.mov (cb true))] [4] .ret))),none⟩
def F119:IFn:=⟨2,[.t 4],sr [oo 3 (.box (.t 1)),oo 4 (.mov (cb false))] [0,3] (sr [om 5 0,oo 6 (.mkf 120 [.t 3]),oo 7 (.call 0 (.c (.fn 144 [])) [.t 5,.t 6]),om 4 7] [4] .ret),none⟩
def F120:IFn:=⟨2,[.t 3],sr [oo 2 (.box (.t 0)),oo 3 (.mov (cb false))] [1,2] (sr [oo 4 (.load true 16 (.t 2)),oo 5 (.load true 12 (.t 1)),oo 6 (.call 0 (.c (.fn 116 [])) [.t 4,.t 5]),om 3 6] [3] .ret),none⟩
def F121:IFn:=⟨2,[.t 4],sr [oo 4 (.nil0 16)] [0,1,4] (.seq (sr [om 10 0,oo 11 (.len false (.t 10)),oo 12 (.mov (ci 0))] [1,4,10,11,12] (.block 0 (.loop [1,4,10,11,12] (sr [ob 13 .lss 12 11] [1,4,10,11,12,13] (.seq (.cond (.t 13) .skip (.exit 0)) (.seq (.block 1 (sr [oo 14 (.isl 16 (.t 10) (.t 12)),oo 15 (.load true 16 (.t 14)),oo 6 (.alloc [.bool false,.nsl 2,.bool false,.nsl 1,.bool false,.nsl 2,.bool false,.nsl 1,.bool false,.nsl 2,.bool false,.nsl 1,.bool false,.nsl 2,.bool false,.nsl 1]),on (.store 16 (.t 6) (.t 15))] [1,4,6,10,11,12] (sr [om 16 1,oo 17 (.len false (.t 16)),oo 18 (.mov (ci 0))] [1,4,6,10,11,12,16,17,18] (.block 2 (.loop [1,4,6,10,11,12,16,17,18] (sr [ob 19 .lss 18 17] [1,4,6,10,11,12,16,17,18,19] (.seq (.cond (.t 19) .skip (.exit 2)) (.seq (.block 3 (sr [oo 20 (.isl 16 (.t 16) (.t 18)),oo 21 (.load true 16 (.t 20)),oo 8 (.alloc [.bool false,.nsl 2,.bool false,.nsl 1,.bool false,.nsl 2,.bool false,.nsl 1,.bool false,.nsl 2,.bool false,.nsl 1,.bool false,.nsl 2,.bool false,.nsl 1]),on (.store 16 (.t 8) (.t 21))] [1,4,6,8,10,11,12,16,17,18] (sr [oo 22 (.load true 16 (.t 6)),oo 23 (.load true 16 (.t 8)),oo 24 (.call 3 (.c (.fn 115 [])) [.t 22,.t 23]),oo 9 (.alloc [.bool false,.nsl 2,.bool false,.nsl 1,.bool false,.nsl 2,.bool false,.nsl 1,.bool false,.nsl 2,.bool false,.nsl 1,.bool false,.nsl 2,.bool false,.nsl 1]),on (.store 16 (.t 9) (.t 24))] [1,4,6,9,10,11,12,16,17,18] (sr [oo 25 (.load true 16 (.t 9)),oo 26 (.call 0 (.c (.fn 59 [])) [.t 25]),oo 27 (.un .not (.t 26))] [1,4,6,9,10,11,12,16,17,18,27] (.cond (.t 27) (rg [om 28 4,oo 29 (.load true 16 (.t 9)),oo 30 (.bsl 16 [.bool false,.nsl 2,.bool false,.nsl 1,.bool false,.nsl 2,.bool false,.nsl 1,.bool false,.nsl 2,.bool false,.nsl 1,.bool false,.nsl 2,.bool false,.nsl 1] 1 [(0,.t 29)]),oo 31 (.app 16 (.t 28) (.t 30)),om 4 31] [1,4,6,10,11,12,16,17,18]) .skip))))) (rg [oo 32 (.bin .add 0 (.t 18) (ci 1)),om 18 32] [1,4,6,10,11,12,16,17,18]))))))))) (rg [oo 33 (.bin .add 0 (.t 12) (ci 1)),om 12 33] [1,4,10,11,12]))))))) (sr [om 34 4,om 4 34] [4] .ret)),none⟩
def F122:IFn:=⟨2,[.t 4],sr [oo 2 (.box (.t 0)),oo 3 (.box (.t 1)),oo 4 (.mov (.c (.int .u64 (0))))] [2,3,4] (.seq (sr [oo 7 (.load true 16 (.t 2)),oo 8 (.mov (ci 0))] [3,4,7,8] (.block 0 (.loop [3,4,7,8] (sr [oo 9 (.bin .lss 0 (.t 8) (ci 4))] [3,4,7,8,9] (.seq (.cond (.t 9) .skip (.exit 0)) (.seq (.block 1 (sr [om 10 8,oo 11 (.xarr true 4 4 (.t 7) (.t 8)),oo 6 (.alloc [.bool false,.nsl 2,.bool false,.nsl 1]),om 5 10,on (.store 4 (.t 6) (.t 11))] [3,4,5,6,7,8] (.rgn true [om 12 4,oo 13 (.load true 4 (.t 6)),om 14 5,od 15 (.iarr 4 3 (.t 3) (.t 14)) [2],od 16 (.load true 3 (.t 15)) [2,3],od 17 (.call 0 (.c (.fn 124 [])) [.t 13,.t 16]) [1,2,3,4],od 18 (.call 0 (.c (.fn 36 [])) [.t 12,.t 17]) [0,1,2,3,4,5],od 4 (.mov (.t 18)) [0,1,2,3,4,5,6]] [3,4,7,8]))) (rg [oo 19 (.bin .add 0 (.t 8) (ci 1)),om 8 19] [3,4,7,8]))))))) (sr [om 20 4,om 4 20] [4] .ret)),none⟩
def F123:IFn:=⟨2,[.t 4],sr [oo 3 (.box (.t 1)),oo 4 (.mov (.c (.int .u64 (0))))] [0,3] (sr [oo 5 (.mov (.c (.int .u64 (18446744073709551615))))] [0,3,5] (.seq (sr [om 8 0,oo 9 (.len false (.t 8)),oo 10 (.mov (ci 0))] [3,5,8,9,10] (.block 0 (.loop [3,5,8,9,10] (sr [ob 11 .lss 10 9] [3,5,8,9,10,11] (.seq (.cond (.t 11) .skip (.exit 0)) (.seq (.block 1 (sr [oo 12 (.isl 16 (.t 8) (.t 10)),oo 13 (.load true 16 (.t 12)),oo 7 (.alloc [.bool false,.nsl 2,.bool false,.nsl 1,.bool false,.nsl 2,.bool false,.nsl 1,.bool false,.nsl 2,.bool false,.nsl 1,.bool false,.nsl 2,.bool false,.nsl 1]),on (.store 16 (.t 7) (.t 13))] [3,5,7,8,9,10] (rg [om 14 5,oo 15 (.load true 16 (.t 7)),oo 16 (.load true 12 (.t 3)),oo 17 (.call 0 (.c (.fn 122 [])) [.t 15,.t 16]),oo 18 (.mn (.t 14) [.t 17]),om 5 18] [3,5,8,9,10]))) (rg [oo 19 (.bin .add 0 (.t 10) (ci 1)),om 10 19] [3,5,8,9,10]))))))) (sr [om 20 5,om 4 20] [4] .ret))),none⟩
def F124:IFn:=⟨2,[.t 4],sr [oo 2 (.box (.t 0)),oo 3 (.box (.t 1)),oo 4 (.mov (.c (.int .u64 (0))))] [2,3] (.seq (sr [oo 8 (.load true 4 (.t 2)),oo 9 (.load true 3 (.t 3)),oo 10 (.call 0 (.c (.fn 127 [])) [.t 8,.t 9])] [2,3,10] (.cond (.t 10) (sr [oo 4 (.mov (.c (.int .u64 (0))))] [4] .ret) .skip)) (sr [oo 5 (.mov (.c (.int .u64 (18446744073709551615))))] [2,3,5] (.seq (sr [oa 11 0 3,ol 12 11,oo 13 (.bin .neq 0 (.t 12) (ci 1)),om 14 13,og 15 (.load true 3 (.t 3)) 14 false,og 16 (.call 0 (.c (.fn 138 [])) [.t 15]) 14 false,og 17 (.un .not (.t 16)) 14 false,oo 18 (.pick (.t 14) (cb true) (.t 17))] [2,3,5,18] (.cond (.t 18) (sr [om 19 5,om 4 19] [4] .ret) .skip)) (.seq (sr [oa 20 1 2,ol 21 20,oo 22 (.len false (.t 21)),oo 23 (.mov (ci 0))] [3,5,21,22,23] (.block 0 (.loop [3,5,21,22,23] (sr [ob 24 .lss 23 22] [3,5,21,22,23,24] (.seq (.cond (.t 24) .skip (.exit 0)) (.seq (.block 1 (sr [oo 25 (.isl 2 (.t 21) (.t 23)),oo 26 (.load true 2 (.t 25)),oo 7 (.alloc [.int .i64 0,.int .i64 0]),on (.store 2 (.t 7) (.t 26))] [3,5,7,21,22,23] (sr [oa 27 0 7,ol 28 27,oa 29 1 7,ol 30 29,ob 31 .leq 28 30] [3,5,7,21,22,23,31] (.cond (.t 31) (rg [om 32 5,oo 33 (.load true 2 (.t 7)),oa 34 1 3,ol 35 34,oo 36 (.call 0 (.c (.fn 125 [])) [.t 33,.t 35]),oo 37 (.mn (.t 32) [.t 36]),om 5 37] [3,5,21,22,23]) .skip)))) (rg [oo 38 (.bin .add 0 (.t 23) (ci 1)),om 23 38] [3,5,21,22,23]))))))) (sr [om 39 5,om 4 39] [4] .ret))))),none⟩
def F125:IFn:=⟨2,[.t 4],sr [oo 2 (.box (.t 0)),oo 4 (.mov (.c (.int .u64 (0))))] [1,2] (.seq (.block 0 (sr [om 6 1,oa 7 0 2,ol 8 7,ob 9 .lss 6 8,om 5 9] [1,2,5] (.cond (.t 5) (sr [oa 10 0 2,ol 11 10,oo 12 (.cvi .u64 (.t 11)),om 13 1,oo 14 (.cvi .u64 (.t 13)),ob 15 .sub 12 14,om 4 15] [4] .ret) (sr [om 17 1,oa 18 1 2,ol 19 18,ob 20 .gtr 17 19,om 16 20] [1,2,16] (.cond (.t 16) (sr [om 21 1,oo 22 (.cvi .u64 (.t 21)),oa 23 1 2,ol 24 23,oo 25 (.cvi .u64 (.t 24)),ob 26 .sub 22 25,om 4 26] [4] .ret) .skip))))) (sr [oo 4 (.mov (.c (.int .u64 (0))))] [4] .ret)),none⟩
def F126:IFn:=⟨2,[.cell 4 true 4],sr [oo 2 (.box (.t 0)),oo 3 (.box (.t 1)),oo 4 (.alloc [.bool false,.nsl 2,.bool false,.nsl 1])] [2,3,4] (.seq (.rgn true [oo 5 (.load true 4 (.t 2)),od 6 (.call 3 (.c (.fn 129 [])) [.t 5]) [0],oo 7 (.load true 4 (.t 3)),od 8 (.call 3 (.c (.fn 129 [])) [.t 7]) [0,1,2],od 9 (.call 3 (.c (.fn 23 [])) [.t 6,.t 8]) [0,1,2,3],od 10 (.call 3 (.c (.fn 129 [])) [.t 9]) [0,1,2,3,4],⟨none,.store 4 (.t 4) (.t 10),none,[0,1,2,3,4,5]⟩] [4]) .ret),none⟩
def F127:IFn:=⟨2,[.t 4],sr [oo 2 (.box (.t 0)),oo 3 (.box (.t 1)),oo 4 (.mov (cb false))] [2,3] (.seq (.block 0 (sr [oo 6 (.load true 3 (.t 3)),oo 7 (.call 0 (.c (.fn 138 [])) [.t 6]),oo 8 (.un .not (.t 7)),om 5 8] [2,3,5] (.cond (.t 5) (sr [oo 4 (.mov (cb false))] [4] .ret) (sr [oa 10 0 3,ol 11 10,oo 12 (.bin .eql 0 (.t 11) (ci 1)),om 9 12] [2,3,9] (.cond (.t 9) (sr [oa 13 1 2,ol 14 13,oo 15 (.mkf 128 [.t 3]),oo 16 (.call 0 (.c (.fn 141 [])) [.t 14,.t 15]),om 4 16] [4] .ret) (sr [oa 18 0 3,ol 19 18,oo 20 (.bin .eql 0 (.t 19) (ci 2)),om 17 20] [2,3,17] (.cond (.t 17) (.seq (.rgn true [oa 21 3 2,od 22 (.load false 1 (.t 21)) [0],oa 23 2 3,od 24 (.load false 1 (.t 23)) [2],od 25 (.call 0 (.c (.fn 53 [])) [.t 22,.t 24]) [0,1,2,3],oa 26 2 2,od 27 (.load false 1 (.t 26)) [5],od 28 (.bin .neq 1 (.t 25) (.t 27)) [0,1,2,3,4,5,6],od 4 (.mov (.t 28)) [0,1,2,3,4,5,6,7]] [4]) .ret) .skip))))))) (sr [oa 29 0 2,ol 30 29,om 4 30] [4] .ret)),none⟩
def F128:IFn:=⟨2,[.t 3],sr [oo 2 (.box (.t 0)),oo 3 (.mov (cb false))] [1,2] (sr [oa 4 0 2,ol 5 4,oa 6 1 1,ol 7 6,ob 8 .leq 5 7,om 9 8,og 10 (.fadr 1 (.t 1)) 9 true,og 11 (.load false 1 (.t 10)) 9 true,og 12 (.fadr 1 (.t 2)) 9 true,og 13 (.load false 1 (.t 12)) 9 true,og 14 (.bin .leq 0 (.t 11) (.t 13)) 9 true,oo 15 (.pick (.t 9) (.t 14) (cb false)),om 3 15] [3] .ret),none⟩
def F129:IFn:=⟨1,[.cell 2 true 4],sr [oo 1 (.box (.t 0)),oo 2 (.alloc [.bool false,.nsl 2,.bool false,.nsl 1])] [1,2] (.seq (.rgn true [oa 3 0 1,od 4 (.load false 1 (.t 3)) [0],od 5 (.un .not (.t 4)) [0,1],oa 6 1 1,od 7 (.load false 1 (.t 6)) [3],od 8 (.call 3 (.c (.fn 37 [])) [.t 7]) [3,4],od 9 (.call 3 (.c (.fn 130 [])) [.t 8]) [3,4,5],oa 10 2 1,od 11 (.load false 1 (.t 10)) [7],od 12 (.un .not (.t 11)) [7,8],oa 13 3 1,od 14 (.load false 1 (.t 13)) [10],od 15 (.call 2 (.c (.fn 54 [])) [.t 14]) [3,4,5,6,10,11],od 16 (.build [.bool false,.nsl 2,.bool false,.nsl 1] [(0,1,.t 5),(1,1,.t 9),(2,1,.t 12),(3,1,.t 15)]) [0,1,2,3,4,5,6,7,8,9,10,11,12],⟨none,.store 4 (.t 2) (.t 16),none,[0,1,2,3,4,5,6,7,8,9,10,11,12,13]⟩] [2]) .ret),none⟩
def F130:IFn:=⟨1,[.t 2],sr [oo 2 (.nil0 2)] [0,2] (sr [oo 3 (.mov (ci (-9223372036854775808)))] [0,2,3] (.seq (sr [om 6 0,oo 7 (.len false (.t 6)),oo 8 (.mov (ci 0))] [2,3,6,7,8] (.block 0 (.loop [2,3,6,7,8] (sr [ob 9 .lss 8 7] [2,3,6,7,8,9] (.seq (.cond (.t 9) .skip (.exit 0)) (.seq (.block 1 (sr [oo 10 (.isl 2 (.t 6) (.t 8)),oo 11 (.load true 2 (.t 10)),oo 5 (.alloc [.int .i64 0,.int .i64 0]),on (.store 2 (.t 5) (.t 11))] [2,3,5,6,7,8] (.seq (sr [oa 12 0 5,ol 13 12,om 14 3,ob 15 .gtr 13 14] [2,3,5,6,7,8,15] (.cond (.t 15) (rg [om 16 2,om 17 3,oa 18 0 5,ol 19 18,oo 20 (.bin .sub 0 (.t 19) (ci 1)),oo 21 (.build [.int .i64 0,.int .i64 0] [(0,1,.t 17),(1,1,.t 20)]),oo 22 (.bsl 2 [.int .i64 0,.int .i64 0] 1 [(0,.t 21)]),oo 23 (.app 2 (.t 16) (.t 22)),om 2 23] [2,5,6,7,8]) .skip)) (.seq (sr [oa 24 1 5,ol 25 24,oo 26 (.bin .eql 0 (.t 25) (ci 9223372036854775807))] [2,5,6,7,8,26] (.cond (.t 26) (sr [om 27 2,om 2 27] [2] .ret) .skip)) (rg [oa 28 1 5,ol 29 28,oo 30 (.bin .add 0 (.t 29) (ci 1)),om 3 30] [2,3,6,7,8]))))) (rg [oo 31 (.bin .add 0 (.t 8) (ci 1)),om 8 31] [2,3,6,7,8]))))))) (sr [om 32 2,om 33 3,oo 34 (.build [.int .i64 0,.int .i64 0] [(0,1,.t 33),(1,1,.c (.int .i64 (9223372036854775807)))]),oo 35 (.bsl 2 [.int .i64 0,.int .i64 0] 1 [(0,.t 34)]),oo 36 (.app 2 (.t 32) (.t 35)),om 2 36] [2] .ret))),none⟩
def F131:IFn:=⟨1,[.t 2],sr [oo 1 (.box (.t 0)),oo 2 (.mov (ci 0))] [1] (.seq (sr [oa 7 0 1,ol 8 7,oo 9 (.len false (.t 8)),oo 10 (.bin .geq 0 (.t 9) (ci 8))] [1,10] (.cond (.t 10) (sr [oo 2 (.mov (ci 8))] [2] .ret) .skip)) (.seq (sr [oa 11 0 1,ol 12 11,oo 13 (.len false (.t 12)),oo 14 (.mov (ci 0))] [1,12,13,14] (.block 0 (.loop [1,12,13,14] (sr [ob 15 .lss 14 13] [1,12,13,14,15] (.seq (.cond (.t 15) .skip (.exit 0)) (.seq (.block 1 (sr [om 16 14,oo 17 (.isl 1 (.t 12) (.t 14)),ol 18 17,om 3 16,om 4 18] [1,3,4,12,13,14] (sr [om 19 4,oo 20 (.bin .lss 0 (.t 19) (ci 0)),om 21 20,og 22 (.mov (.t 4)) 21 false,og 23 (.mov (.t 3)) 21 false,og 24 (.bin .gtr 0 (.t 22) (.t 23)) 21 false,oo 25 (.pick (.t 21) (cb true) (.t 24))] [1,12,13,14,25] (.cond (.t 25) (sr [oo 2 (.mov (ci 8))] [2] .ret) .skip)))) (rg [oo 26 (.bin .add 0 (.t 14) (ci 1)),om 14 26] [1,12,13,14]))))))) (.seq (sr [oa 27 1 1,ol 28 27,oo 29 (.len false (.t 28)),oo 30 (.bin .gtr 0 (.t 29) (ci 8)),om 31 30,og 32 (.fadr 2 (.t 1)) 31 false,og 33 (.load false 1 (.t 32)) 31 false,og 34 (.bin .lss 0 (.t 33) (ci 0)) 31 false,oo 35 (.pick (.t 31) (cb true) (.t 34)),om 36 35,og 37 (.fadr 2 (.t 1)) 36 false,og 38 (.load false 1 (.t 37)) 36 false,og 39 (.bin .gtr 0 (.t 38) (ci 1000000)) 36 false,oo 40 (.pick (.t 36) (cb true) (.t 39)),om 41 40,og 42 (.fadr 3 (.t 1)) 41 false,og 43 (.load false 1 (.t 42)) 41 false,og 44 (.bin .eql 0 (.t 43) (.c (.int .u64 (18446744073709551615)))) 41 false,oo 45 (.pick (.t 41) (cb true) (.t 44))] [1,45] (.cond (.t 45) (sr [oo 2 (.mov (ci 1))] [2] .ret) .skip)) (.seq (sr [oa 46 1 1,ol 47 46,oo 48 (.len false (.t 47)),oo 49 (.mov (ci 0))] [1,47,48,49] (.block 2 (.loop [1,47,48,49] (sr [ob 50 .lss 49 48] [1,47,48,49,50] (.seq (.cond (.t 50) .skip (.exit 2)) (.seq (.block 3 (sr [oo 51 (.isl 1 (.t 47) (.t 49)),ol 52 51,om 6 52] [1,6,47,48,49] (sr [om 53 6,oo 54 (.bin .lss 0 (.t 53) (ci 0)),om 55 54,og 56 (.mov (.t 6)) 55 false,og 57 (.fadr 0 (.t 1)) 55 false,og 58 (.load false 1 (.t 57)) 55 false,og 59 (.len false (.t 58)) 55 false,og 60 (.bin .gtr 0 (.t 56) (.t 59)) 55 false,oo 61 (.pick (.t 55) (cb true) (.t 60))] [1,47,48,49,61] (.cond (.t 61) (sr [oo 2 (.mov (ci 1))] [2] .ret) .skip)))) (rg [oo 62 (.bin .add 0 (.t 49) (ci 1)),om 49 62] [1,47,48,49]))))))) (sr [oo 2 (.mov (ci 0))] [2] .ret))))),none⟩
def F133:IFn:=⟨2,[.t 4],sr [oo 2 (.box (.t 0)),oo 4 (.nil0 1)] [1,2,4] (.seq (sr [om 7 1,oo 8 (.call 0 (.c (.fn 135 [])) [.t 2,.t 7]),oo 9 (.un .not (.t 8))] [1,2,4,9] (.cond (.t 9) (sr [oo 4 (.nil0 1)] [4] .ret) .skip)) (.seq (sr [om 10 1,oo 11 (.bin .gtr 0 (.t 10) (ci 0))] [1,2,4,11] (.cond (.t 11) (rg [om 12 4,oa 13 0 2,ol 14 13,om 15 1,oo 16 (.bin .sub 0 (.t 15) (ci 1)),oo 17 (.isl 1 (.t 14) (.t 16)),ol 18 17,oo 19 (.bsl 1 [.int .i64 0] 1 [(0,.t 18)]),oo 20 (.app 1 (.t 12) (.t 19)),om 4 20] [1,2,4]) .skip)) (.seq (sr [oa 21 0 2,ol 22 21,oo 23 (.len false (.t 22)),oo 24 (.mov (ci 0))] [1,4,22,23,24] (.block 0 (.loop [1,4,22,23,24] (sr [ob 25 .lss 24 23] [1,4,22,23,24,25] (.seq (.cond (.t 25) .skip (.exit 0)) (.seq (.block 1 (sr [om 26 24,oo 27 (.isl 1 (.t 22) (.t 24)),ol 28 27,om 5 26,om 6 28] [1,4,5,6,22,23,24] (sr [om 29 6,om 30 1,ob 31 .eql 29 30] [1,4,5,22,23,24,31] (.cond (.t 31) (rg [om 32 4,om 33 5,oo 34 (.bin .add 0 (.t 33) (ci 1)),oo 35 (.bsl 1 [.int .i64 0] 1 [(0,.t 34)]),oo 36 (.app 1 (.t 32) (.t 35)),om 4 36] [1,4,22,23,24]) .skip)))) (rg [oo 37 (.bin .add 0 (.t 24) (ci 1)),om 24 37] [1,4,22,23,24]))))))) (sr [om 38 4,om 4 38] [4] .ret)))),none⟩
def F134:IFn:=⟨1,[.t 2],sr [oo 1 (.box (.t 0)),oo 2 (.mov (ci 0))] [1] (.seq (sr [oo 3 (.load true 4 (.t 1)),oo 4 (.call 0 (.c (.fn 131 [])) [.t 3]),oo 5 (.bin .neq 0 (.t 4) (ci 0))] [1,5] (.cond (.t 5) (sr [oo 2 (.mov (ci 0))] [2] .ret) .skip)) (sr [oa 6 0 1,ol 7 6,oo 8 (.len false (.t 7)),oo 9 (.bin .add 0 (.t 8) (ci 1)),om 2 9] [2] .ret)),none⟩
def F135:IFn:=⟨2,[.t 4],sr [oo 4 (.mov (cb false))] [0,1] (sr [om 5 1,oo 6 (.bin .geq 0 (.t 5) (ci 0)),om 7 6,og 8 (.mov (.t 1)) 7 true,og 9 (.mov (.t 0)) 7 true,og 10 (.nchk (.t 9)) 7 true,og 11 (.load true 4 (.t 10)) 7 true,og 12 (.call 0 (.c (.fn 134 [])) [.t 11]) 7 true,og 13 (.bin .lss 0 (.t 8) (.t 12)) 7 true,oo 14 (.pick (.t 7) (.t 13) (cb false)),om 4 14] [4] .ret),none⟩
def F137:IFn:=⟨1,[.t 2],sr [oo 1 (.box (.t 0)),oo 2 (.mov (cb false))] [1] (.seq (sr [oo 5 (.load true 12 (.t 1)),oo 6 (.mov (ci 0))] [5,6] (.block 0 (.loop [5,6] (sr [oo 7 (.bin .lss 0 (.t 6) (ci 4))] [5,6,7] (.seq (.cond (.t 7) .skip (.exit 0)) (.seq (.block 1 (sr [oo 8 (.xarr true 4 3 (.t 5) (.t 6)),⟨some 4,.alloc [.int .i64 0,.int .i64 0,.str ⟨#[]⟩],none,[]⟩,on (.store 3 (.t 4) (.t 8))] [4,5,6] (sr [oo 9 (.load true 3 (.t 4)),oo 10 (.call 0 (.c (.fn 138 [])) [.t 9]),oo 11 (.un .not (.t 10))] [5,6,11] (.cond (.t 11) (sr [oo 2 (.mov (cb false))] [2] .ret) .skip)))) (rg [oo 12 (.bin .add 0 (.t 6) (ci 1)),om 6 12] [5,6]))))))) (sr [oo 2 (.mov (cb true))] [2] .ret)),none⟩
def F138:IFn:=⟨1,[.t 2],sr [oo 1 (.box (.t 0)),oo 2 (.mov (cb false))] [1] (.seq (sr [oa 3 0 1,ol 4 3] [1,4] (.block 0 (sr [oo 6 (.bin .eql 0 (.t 4) (ci 0)),om 5 6] [1,4,5] (.cond (.t 5) (sr [oo 7 (.load true 3 (.t 1)),⟨some 8,.build [.int .i64 0,.int .i64 0,.str ⟨#[]⟩] [],none,[]⟩,oo 9 (.eqc false [0,0,2] (.t 7) (.t 8)),om 2 9] [2] .ret) (sr [oo 11 (.bin .eql 0 (.t 4) (ci 1)),om 10 11] [1,4,10] (.cond (.t 10) (sr [oa 12 2 1,ol 13 12,⟨some 14,.bin .eql 0 (.t 13) (.c (.str ⟨#[]⟩)),none,[]⟩,om 2 14] [2] .ret) (sr [oo 16 (.bin .eql 0 (.t 4) (ci 2)),om 15 16] [1,15] (.cond (.t 15) (sr [oa 17 1 1,ol 18 17,oo 19 (.bin .eql 0 (.t 18) (ci 0)),om 20 19,og 21 (.fadr 2 (.t 1)) 20 true,og 22 (.load false 1 (.t 21)) 20 true,og 23 (.len true (.t 22)) 20 true,og 24 (.bin .leq 0 (.t 23) (ci 8)) 20 true,oo 25 (.pick (.t 20) (.t 24) (cb false)),om 2 25] [2] .ret) .skip)))))))) (sr [oo 2 (.mov (cb false))] [2] .ret)),none⟩
def F141:IFn:=⟨2,[.t 4],sr [oo 4 (.mov (cb false))] [0,1] (sr [om 5 0,om 6 1,oo 7 (.call 0 (.c (.fn 148 [])) [.t 5,.t 6]),oo 8 (.bin .geq 0 (.t 7) (ci 0)),om 4 8] [4] .ret),none⟩
def F144:IFn:=⟨2,[.t 4],sr [oo 4 (.mov (cb false))] [0,1] (sr [om 5 0,om 6 1,oo 7 (.call 0 (.c (.fn 151 [])) [.t 5,.t 6]),oo 8 (.bin .geq 0 (.t 7) (ci 0)),om 4 8] [4] .ret),none⟩
def F145:IFn:=⟨2,[.t 4],sr [oo 4 (.mov (cb false))] [0,1] (sr [om 5 0,om 6 1,oo 7 (.call 0 (.c (.fn 152 [])) [.t 5,.t 6]),oo 8 (.bin .geq 0 (.t 7) (ci 0)),om 4 8] [4] .ret),none⟩
def F148:IFn:=⟨2,[.t 4],sr [oo 4 (.mov (ci 0))] [0,1] (.seq (sr [om 6 0,oo 7 (.len false (.t 6)),oo 8 (.mov (ci 0))] [0,1,7,8] (.block 0 (.loop [0,1,7,8] (sr [ob 9 .lss 8 7] [0,1,7,8,9] (.seq (.cond (.t 9) .skip (.exit 0)) (.seq (.block 1 (sr [om 10 8,om 5 10] [0,1,5,7,8] (sr [om 11 1,om 12 0,om 13 5,oo 14 (.isl 2 (.t 12) (.t 13)),oo 15 (.load true 2 (.t 14)),oo 16 (.call 0 (.t 11) [.t 15])] [0,1,5,7,8,16] (.cond (.t 16) (sr [om 17 5,om 4 17] [4] .ret) .skip)))) (rg [oo 18 (.bin .add 0 (.t 8) (ci 1)),om 8 18] [0,1,7,8]))))))) (sr [oo 4 (.mov (ci (-1)))] [4] .ret)),none⟩
def F151:IFn:=⟨2,[.t 4],sr [oo 4 (.mov (ci 0))] [0,1] (.seq (sr [om 6 0,oo 7 (.len false (.t 6)),oo 8 (.mov (ci 0))] [0,1,7,8] (.block 0 (.loop [0,1,7,8] (sr [ob 9 .lss 8 7] [0,1,7,8,9] (.seq (.cond (.t 9) .skip (.exit 0)) (.seq (.block 1 (sr [om 10 8,om 5 10] [0,1,5,7,8] (sr [om 11 1,om 12 0,om 13 5,oo 14 (.isl 16 (.t 12) (.t 13)),oo 15 (.load true 16 (.t 14)),oo 16 (.call 0 (.t 11) [.t 15])] [0,1,5,7,8,16] (.cond (.t 16) (sr [om 17 5,om 4 17] [4] .ret) .skip)))) (rg [oo 18 (.bin .add 0 (.t 8) (ci 1)),om 8 18] [0,1,7,8]))))))) (sr [oo 4 (.mov (ci (-1)))] [4] .ret)),none⟩
def F152:IFn:=⟨2,[.t 4],sr [oo 4 (.mov (ci 0))] [0,1] (.seq (sr [om 6 0,oo 7 (.len false (.t 6)),oo 8 (.mov (ci 0))] [0,1,7,8] (.block 0 (.loop [0,1,7,8] (sr [ob 9 .lss 8 7] [0,1,7,8,9] (.seq (.cond (.t 9) .skip (.exit 0)) (.seq (.block 1 (sr [om 10 8,om 5 10] [0,1,5,7,8] (sr [om 11 1,om 12 0,om 13 5,oo 14 (.isl 1 (.t 12) (.t 13)),ol 15 14,ob 16 .eql 11 15] [0,1,5,7,8,16] (.cond (.t 16) (sr [om 17 5,om 4 17] [4] .ret) .skip)))) (rg [oo 18 (.bin .add 0 (.t 8) (ci 1)),om 8 18] [0,1,7,8]))))))) (sr [oo 4 (.mov (ci (-1)))] [4] .ret)),none⟩
def F169:IFn:=⟨2,[.t 4],sr [oo 2 (.box (.t 0)),oo 4 (.mov (ci 0))] [1,2] (sr [oo 5 (.mov (ci 1))] [1,2,5] (.seq (sr [om 7 1,oo 8 (.bin .gtr 0 (.t 7) (ci 20))] [1,2,5,8] (.cond (.t 8) (sr [oo 4 (.mov (ci 100))] [4] .ret) .skip)) (.seq (sr [oo 6 (.mov (ci 0))] [1,2,5,6] (.block 0 (.loop [1,2,5,6] (.seq (sr [om 9 6,oa 10 6 2,ol 11 10,oo 12 (.len false (.t 11)),ob 13 .lss 9 12,om 14 13,og 15 (.mov (.t 5)) 14 true,og 16 (.bin .lss 0 (.t 15) (ci 100)) 14 true,oo 17 (.pick (.t 14) (.t 16) (cb false))] [1,2,5,6,17] (.cond (.t 17) .skip (.exit 0))) (.seq (.block 1 (rg [om 20 5,oa 21 6 2,ol 22 21,om 23 6,oo 24 (.isl 7 (.t 22) (.t 23)),oo 25 (.load true 7 (.t 24)),om 26 1,oo 27 (.bin .add 0 (.t 26) (ci 1)),oo 28 (.call 0 (.c (.fn 169 [])) [.t 25,.t 27]),ob 29 .add 20 28,om 5 29] [1,2,5,6])) (rg [om 18 6,oo 19 (.bin .add 0 (.t 18) (ci 1)),om 6 19] [1,2,5,6])))))) (sr [om 30 5,oo 31 (.mn (.t 30) [.c (.int .i64 (100))]),om 4 31] [4] .ret)))),none⟩
def F170:IFn:=⟨2,[.t 4],sr [oo 2 (.box (.t 0)),oo 4 (.mov (ci 0))] [1,2] (sr [oo 5 (.mov (ci 0))] [1,2,5] (.seq (sr [om 7 1,oo 8 (.bin .gtr 0 (.t 7) (ci 20))] [1,2,5,8] (.cond (.t 8) (sr [oo 4 (.mov (ci 20))] [4] .ret) .skip)) (.seq (sr [oo 6 (.mov (ci 0))] [1,2,5,6] (.block 0 (.loop [1,2,5,6] (.seq (sr [om 9 6,oa 10 6 2,ol 11 10,oo 12 (.len false (.t 11)),ob 13 .lss 9 12,om 14 13,og 15 (.mov (.t 6)) 14 true,og 16 (.bin .lss 0 (.t 15) (ci 100)) 14 true,oo 17 (.pick (.t 14) (.t 16) (cb false))] [1,2,5,6,17] (.cond (.t 17) .skip (.exit 0))) (.seq (.block 1 (rg [om 20 5,oa 21 6 2,ol 22 21,om 23 6,oo 24 (.isl 7 (.t 22) (.t 23)),oo 25 (.load true 7 (.t 24)),om 26 1,oo 27 (.bin .add 0 (.t 26) (ci 1)),oo 28 (.call 0 (.c (.fn 170 [])) [.t 25,.t 27]),oo 29 (.mx (.t 20) [.t 28]),om 5 29] [1,2,5,6])) (rg [om 18 6,oo 19 (.bin .add 0 (.t 18) (ci 1)),om 6 19] [1,2,5,6])))))) (sr [om 30 5,oo 31 (.bin .add 0 (.t 30) (ci 1)),oo 32 (.mn (.t 31) [.c (.int .i64 (20))]),om 4 32] [4] .ret)))),none⟩
def F203:IFn:=⟨1,[.t 2],sr [oo 1 (.box (.t 0)),oo 2 (.mov (cb false))] [1] (.seq (sr [oo 3 (.load true 7 (.t 1)),oo 4 (.call 0 (.c (.fn 169 [])) [.t 3,.c (.int .i64 (0))]),oo 5 (.bin .geq 0 (.t 4) (ci 100)),om 6 5,og 7 (.load true 7 (.t 1)) 6 false,og 8 (.call 0 (.c (.fn 170 [])) [.t 7,.c (.int .i64 (0))]) 6 false,og 9 (.bin .geq 0 (.t 8) (ci 20)) 6 false,oo 10 (.pick (.t 6) (cb true) (.t 9))] [1,10] (.cond (.t 10) (sr [oo 2 (.mov (cb false))] [2] .ret) .skip)) (sr [oo 11 (.load true 7 (.t 1)),oo 12 (.call 0 (.c (.fn 204 [])) [.t 11]),om 2 12] [2] .ret)),none⟩
def F204:IFn:=⟨1,[.t 2],sr [oo 1 (.box (.t 0)),oo 2 (.mov (cb false))] [1] (.seq (sr [oa 4 2 1,oo 5 (.load true 4 (.t 4)),oo 6 (.bsl 4 [.bool false,.nsl 2,.bool false,.nsl 1] 1 [(0,.t 5)]),oo 7 (.call 0 (.c (.fn 27 [])) [.t 6]),oo 8 (.un .not (.t 7))] [1,8] (.cond (.t 8) (sr [oo 2 (.mov (cb false))] [2] .ret) .skip)) (.seq (sr [oo 3 (.mov (ci 0))] [1,3] (.block 0 (.loop [1,3] (.seq (sr [om 9 3,oa 10 6 1,ol 11 10,oo 12 (.len false (.t 11)),ob 13 .lss 9 12] [1,3,13] (.cond (.t 13) .skip (.exit 0))) (.seq (.block 1 (sr [oa 16 6 1,ol 17 16,om 18 3,oo 19 (.isl 7 (.t 17) (.t 18)),oo 20 (.load true 7 (.t 19)),oo 21 (.call 0 (.c (.fn 204 [])) [.t 20]),oo 22 (.un .not (.t 21))] [1,3,22] (.cond (.t 22) (sr [oo 2 (.mov (cb false))] [2] .ret) .skip))) (rg [om 14 3,oo 15 (.bin .add 0 (.t 14) (ci 1)),om 3 15] [1,3])))))) (sr [oo 2 (.mov (cb true))] [2] .ret))),none⟩
def F171:IFn:=⟨2,[.t 4],sr [oo 4 (.mov (cb false))] [0,1] (.seq (sr [om 6 0,oo 7 (.len false (.t 6)),om 8 1,oo 9 (.len false (.t 8)),ob 10 .neq 7 9] [0,1,10] (.cond (.t 10) (sr [oo 4 (.mov (cb false))] [4] .ret) .skip)) (.seq (sr [oo 5 (.mov (ci 0))] [0,1,5] (.block 0 (.loop [0,1,5] (.seq (sr [om 11 5,om 12 0,oo 13 (.len false (.t 12)),ob 14 .lss 11 13] [0,1,5,14] (.cond (.t 14) .skip (.exit 0))) (.seq (.block 1 (.seq (.rgn true [om 17 0,om 18 5,od 19 (.isl 1 (.t 17) (.t 18)) [0,1],od 20 (.load false 1 (.t 19)) [0,1,2],om 21 1,om 22 5,od 23 (.isl 1 (.t 21) (.t 22)) [4,5],od 24 (.load false 1 (.t 23)) [4,5,6],od 25 (.bin .neq 0 (.t 20) (.t 24)) [0,1,2,3,4,5,6,7]] [0,1,5,25]) (.cond (.t 25) (sr [oo 4 (.mov (cb false))] [4] .ret) .skip))) (rg [om 15 5,oo 16 (.bin .add 0 (.t 15) (ci 1)),om 5 16] [0,1,5])))))) (sr [oo 4 (.mov (cb true))] [4] .ret))),none⟩
def F202:IFn:=⟨1,[.t 2],sr [oo 1 (.box (.t 0)),oo 2 (.mov (cb false))] [1] (sr [oa 3 0 1,ol 4 3,oo 5 (.len false (.t 4)),oo 6 (.bin .leq 0 (.t 5) (ci 100)),om 7 6,og 8 (.fadr 1 (.t 1)) 7 true,og 9 (.load false 1 (.t 8)) 7 true,og 10 (.len false (.t 9)) 7 true,og 11 (.bin .leq 0 (.t 10) (ci 100)) 7 true,oo 12 (.pick (.t 7) (.t 11) (cb false)),om 2 12] [2] .ret),none⟩
def F201:IFn:=⟨2,[.t 4],sr [oo 2 (.box (.t 0)),oo 4 (.mov (cb false))] [1,2] (sr [oo 5 (.mov (ci 0))] [1,2,5] (.seq (sr [oo 6 (.mov (ci 0))] [1,2,5,6] (.block 0 (.loop [1,2,5,6] (.seq (sr [om 8 6,om 9 1,oo 10 (.len false (.t 9)),ob 11 .lss 8 10] [1,2,5,6,11] (.cond (.t 11) .skip (.exit 0))) (.seq (.block 1 (sr [om 14 1,om 15 6,oo 16 (.isl 24 (.t 14) (.t 15)),oo 17 (.load true 24 (.t 16)),⟨some 7,.alloc [.int .i64 0,.int .i64 0,.int .i64 0,.int .i64 0,.int .i64 0,.int .i64 0,.int .i64 0,.bool false,.nsl 2,.bool false,.nsl 1,.nsl 7,.int .i64 0,.int .i64 0,.str ⟨#[]⟩,.int .i64 0,.int .i64 0,.str ⟨#[]⟩,.int .i64 0,.int .i64 0,.str ⟨#[]⟩,.int .i64 0,.int .i64 0,.str ⟨#[]⟩],none,[]⟩,on (.store 24 (.t 7) (.t 17))] [1,2,5,6,7] (.seq (sr [oa 18 5 7,oo 19 (.load true 7 (.t 18)),oo 20 (.call 0 (.c (.fn 203 [])) [.t 19]),oo 21 (.un .not (.t 20)),om 22 21,og 23 (.fadr 12 (.t 7)) 22 false,og 24 (.iarr 4 3 (.t 23) (ci 0)) 22 false,og 25 (.fadr 2 (.t 24)) 22 false,og 26 (.load false 1 (.t 25)) 22 false,og 27 (.len true (.t 26)) 22 false,og 28 (.fadr 12 (.t 7)) 22 false,og 29 (.iarr 4 3 (.t 28) (ci 1)) 22 false,og 30 (.fadr 2 (.t 29)) 22 false,og 31 (.load false 1 (.t 30)) 22 false,og 32 (.len true (.t 31)) 22 false,og 33 (.bin .add 0 (.t 27) (.t 32)) 22 false,og 34 (.fadr 12 (.t 7)) 22 false,og 35 (.iarr 4 3 (.t 34) (ci 2)) 22 false,og 36 (.fadr 2 (.t 35)) 22 false,og 37 (.load false 1 (.t 36)) 22 false,og 38 (.len true (.t 37)) 22 false,og 39 (.bin .add 0 (.t 33) (.t 38)) 22 false,og 40 (.fadr 12 (.t 7)) 22 false,og 41 (.iarr 4 3 (.t 40) (ci 3)) 22 false,og 42 (.fadr 2 (.t 41)) 22 false,og 43 (.load false 1 (.t 42)) 22 false,og 44 (.len true (.t 43)) 22 false,og 45 (.bin .add 0 (.t 39) (.t 44)) 22 false,og 46 (.bin .gtr 0 (.t 45) (ci 300)) 22 false,oo 47 (.pick (.t 22) (cb true) (.t 46))] [1,2,5,6,7,47] (.cond (.t 47) (sr [oo 4 (.mov (cb false))] [4] .ret) .skip)) (sr [oa 48 0 7,ol 49 48,oo 50 (.bin .eql 0 (.t 49) (ci 1))] [1,2,5,6,50] (.cond (.t 50) (rg [om 51 5,oo 52 (.bin .add 0 (.t 51) (ci 1)),om 5 52] [1,2,5,6]) .skip))))) (rg [om 12 6,oo 13 (.bin .add 0 (.t 12) (ci 1)),om 6 13] [1,2,5,6])))))) (sr [oo 53 (.load true 4 (.t 2)),oo 54 (.call 0 (.c (.fn 202 [])) [.t 53]),om 55 54,og 56 (.mov (.t 5)) 55 true,og 57 (.bin .leq 0 (.t 56) (ci 16)) 55 true,oo 58 (.pick (.t 55) (.t 57) (cb false)),om 59 58,og 60 (.mov (.t 1)) 59 true,og 61 (.len false (.t 60)) 59 true,og 62 (.bin .leq 0 (.t 61) (ci 120)) 59 true,oo 63 (.pick (.t 59) (.t 62) (cb false)),om 4 63] [4] .ret))),none⟩
end Arb
namespace Arx
open Go Arb
def F174:IFn:=⟨2,[.t 4],sr [oo 4 (.mov (cb false))] [0,1] (sr [om 5 0,oc 6 5,oa 7 3 6,ol 8 7,om 9 1,ob 10 .leq 8 9,om 11 10,og 12 (.mov (.t 0)) 11 true,og 13 (.nchk (.t 12)) 11 true,og 14 (.fadr 4 (.t 13)) 11 true,og 15 (.load false 1 (.t 14)) 11 true,og 16 (.bin .eql 0 (.t 15) (ci 0)) 11 true,og 17 (.mov (.t 16)) 11 true,og 18 (.mov (.t 0)) 17 false,og 19 (.nchk (.t 18)) 17 false,og 20 (.fadr 4 (.t 19)) 17 false,og 21 (.load false 1 (.t 20)) 17 false,og 22 (.mov (.t 1)) 17 false,og 23 (.bin .gtr 0 (.t 21) (.t 22)) 17 false,og 24 (.pick (.t 17) (cb true) (.t 23)) 11 true,oo 25 (.pick (.t 11) (.t 24) (cb false)),om 4 25] [4] .ret),none⟩
def F181:IFn:=⟨4,[.t 8],sr [oo 8 (.mov (cb false))] [0,1,2,3] (sr [om 9 0,om 10 1,om 11 2,oo 12 (.scall (.c (.iv (.fn 182 []))) [.t 9,.t 10,.t 11]),om 13 12,og 14 (.mov (.t 0)) 13 true,og 15 (.nchk (.t 14)) 13 true,og 16 (.fadr 0 (.t 15)) 13 true,og 17 (.load true 4 (.t 16)) 13 true,og 18 (.mov (.t 1)) 13 true,og 19 (.mov (.t 2)) 13 true,og 20 (.scall (.c (.iv (.fn 175 []))) [.t 17,.t 18,.t 19]) 13 true,og 21 (.mov (.t 3)) 13 true,og 22 (.call 0 (.c (.iv (.fn 145 []))) [.t 20,.t 21]) 13 true,og 23 (.un .not (.t 22)) 13 true,oo 24 (.pick (.t 13) (.t 23) (cb false)),om 8 24] [8] .ret),none⟩
def F182:IFn:=⟨3,[.t 6],sr [oo 6 (.mov (cb false))] [0,1,2] (sr [om 7 0,oc 8 7,oa 9 0 8,oo 10 (.load true 4 (.t 9)),om 11 1,oo 12 (.call 3 (.c (.iv (.fn 133 []))) [.t 10,.t 11]),om 13 2,oo 14 (.call 0 (.c (.iv (.fn 145 []))) [.t 12,.t 13]),om 6 14] [6] .ret),none⟩
def F198:IFn:=⟨3,[.t 6],sr [oo 5 (.box 0 (.t 2)),oo 6 (.mov (ci 0))] [0,1,5] (sr [om 12 0,oc 13 12,oa 14 6 13,ol 15 14,oo 16 (.mkf 200 [] [.t 5]),oo 17 (.scall (.c (.iv (.fn 150 []))) [.t 15,.t 16]),om 7 17] [0,1,5,7] (.seq (sr [om 18 7,oo 19 (.bin .lss 0 (.t 18) (ci 0))] [0,1,5,7,19] (.cond (.t 19) (sr [oo 6 (.mov (ci 0))] [6] .ret) .skip)) (sr [om 20 0,oc 21 20,oa 22 6 21,ol 23 22,om 24 7,oo 25 (.isl 1 (.t 23) (.t 24)),ol 26 25,om 8 26] [0,1,5,7,8] (.seq (sr [om 27 0,oc 28 27,oa 29 4 28,ol 30 29,oo 31 (.len false (.t 30)),oo 32 (.mov (ci 0))] [0,1,5,7,8,31,32] (.block 0 (.loop [0,1,5,7,8,31,32] (sr [ob 33 .lss 32 31] [0,1,5,7,8,31,32,33] (.seq (.cond (.t 33) .skip (.exit 0)) (.seq (.block 1 (sr [om 34 32,om 9 34] [0,1,5,7,8,9,31,32] (sr [om 35 0,oc 36 35,oa 37 4 36,ol 38 37,om 39 9,oo 40 (.isl 5 (.t 38) (.t 39)),oo 10 (.alloc 0 [.iv .nilp]),on (.store 1 (.t 10) (.t 40))] [0,1,5,7,8,10,31,32] (.seq (.rgn true [ol 41 10,od 42 (.nchk (.t 41)) [0],od 43 (.fadr 0 (.t 42)) [0,1],od 44 (.load false 1 (.t 43)) [0,1,2],om 45 1,od 46 (.bin .eql 0 (.t 44) (.t 45)) (ra 5),od 47 (.mov (.t 46)) (ra 6),oe 48 (.load false 1 (.t 10)) 47 true (ra 7),oe 49 (.nchk (.t 48)) 47 true (ra 8),oe 50 (.fadr 4 (.t 49)) 47 true (ra 9),oe 51 (.load false 1 (.t 50)) 47 true (ra 10),oe 52 (.bin .eql 0 (.t 51) (ci 0)) 47 true (ra 11),oe 53 (.mov (.t 52)) 47 true (ra 12),oe 54 (.load false 1 (.t 10)) 53 false (ra 13),oe 55 (.nchk (.t 54)) 53 false (ra 14),oe 56 (.fadr 4 (.t 55)) 53 false (ra 15),oe 57 (.load false 1 (.t 56)) 53 false (ra 16),oe 58 (.mov (.t 8)) 53 false (ra 13),oe 59 (.bin .geq 0 (.t 57) (.t 58)) 53 false (ra 18),oe 60 (.pick (.t 53) (cb true) (.t 59)) 47 true (ra 19),od 61 (.pick (.t 47) (.t 60) (cb false)) (ra 20),od 62 (.mov (.t 61)) (ra 21),oe 63 (.load false 1 (.t 10)) 62 true (ra 22),oe 64 (.nchk (.t 63)) 62 true (ra 23),oe 65 (.fadr 2 (.t 64)) 62 true (ra 24),oe 66 (.load false 1 (.t 65)) 62 true (ra 25),oe 67 (.load false 1 (.t 5)) 62 true (ra 22),oe 68 (.nchk (.t 67)) 62 true [0,1,2,3,4,5,6,7,8,9,10,11,12,13,14,15,16,17,18,19,20,21,26],oe 69 (.fadr 0 (.t 68)) 62 true [0,1,2,3,4,5,6,7,8,9,10,11,12,13,14,15,16,17,18,19,20,21,26,27],oe 70 (.fadr 2 (.t 69)) 62 true [0,1,2,3,4,5,6,7,8,9,10,11,12,13,14,15,16,17,18,19,20,21,26,27,28],oe 71 (.load true 12 (.t 70)) 62 true [0,1,2,3,4,5,6,7,8,9,10,11,12,13,14,15,16,17,18,19,20,21,26,27,28,29],oe 72 (.call 0 (.c (.iv (.fn 119 []))) [.t 66,.t 71]) 62 true (ra 31),od 73 (.pick (.t 62) (.t 72) (cb false)) (ra 32),od 11 (.mov (.t 73)) (ra 33)] [0,1,5,7,8,10,11,31,32]) (sr [om 74 11,om 75 74,og 76 (.mov (.t 0)) 75 true,og 77 (.nchk (.t 76)) 75 true,og 78 (.fadr 6 (.t 77)) 75 true,og 79 (.load false 1 (.t 78)) 75 true,og 80 (.mov (.t 7)) 75 true,og 81 (.slc 1 (.t 79) none (some (.t 80))) 75 true,og 82 (.mkf 199 [] [.t 10]) 75 true,og 83 (.scall (.c (.iv (.fn 143 []))) [.t 81,.t 82]) 75 true,oo 84 (.pick (.t 75) (.t 83) (cb false))] [0,1,5,7,8,31,32,84] (.cond (.t 84) (sr [om 85 8,om 6 85] [6] .ret) .skip)))))) (rg [oo 86 (.bin .add 0 (.t 32) (ci 1)),om 32 86] [0,1,5,7,8,31,32]))))))) (sr [oo 6 (.mov (ci 0))] [6] .ret))))),none⟩
def F200:IFn:=⟨2,[.t 3],sr [oo 3 (.mov (cb false))] [0,1] (sr [om 4 0,ol 5 1,oc 6 5,oa 7 14 6,ol 8 7,ob 9 .gtr 4 8,om 3 9] [3] .ret),none⟩
def F199:IFn:=⟨2,[.t 3],sr [oo 3 (.mov (cb false))] [0,1] (sr [om 4 0,ol 5 1,oc 6 5,oa 7 3 6,ol 8 7,ob 9 .gtr 4 8,om 3 9] [3] .ret),none⟩
def F176:IFn:=⟨2,[.t 4],sr [oo 4 (.mov (.c (.iv (.nilp))))] [0,1] (.seq (sr [om 5 1,oo 6 (.bin .lss 0 (.t 5) (ci 1)),om 7 6,og 8 (.mov (.t 1)) 7 false,og 9 (.mov (.t 0)) 7 false,og 10 (.nchk (.t 9)) 7 false,og 11 (.fadr 5 (.t 10)) 7 false,og 12 (.load false 1 (.t 11)) 7 false,og 13 (.len false (.t 12)) 7 false,og 14 (.bin .gtr 0 (.t 8) (.t 13)) 7 false,oo 15 (.pick (.t 7) (cb true) (.t 14))] [0,1,15] (.cond (.t 15) (sr [oo 4 (.mov (.c (.iv (.nilp))))] [4] .ret) .skip)) (sr [om 16 0,oc 17 16,oa 18 5 17,ol 19 18,om 20 1,oo 21 (.bin .sub 0 (.t 20) (ci 1)),oo 22 (.isl 15 (.t 19) (.t 21)),om 4 22] [4] .ret)),none⟩
def F183:IFn:=⟨3,[],sr [om 13 1,oc 14 13,oa 15 5 14,oo 16 (.load true 7 (.t 15)),oo 17 (.scall (.c (.iv (.fn 184 []))) [.t 16]),om 12 17,oo 18 (.ext (.t 12) 0),oo 19 (.ext (.t 12) 1),om 6 18,om 7 19] [0,1,2,6,7] (sr [oo 8 (.mov (ci 0)),oo 9 (.mov (ci 0))] [0,1,2,6,7,8,9] (.seq (sr [om 20 0,oc 21 20,oa 22 4 21,ol 23 22,oo 24 (.len false (.t 23)),oo 25 (.mov (ci 0))] [0,1,2,6,7,8,9,23,24,25] (.block 0 (.loop [0,1,2,6,7,8,9,23,24,25] (sr [ob 26 .lss 25 24] [0,1,2,6,7,8,9,23,24,25,26] (.seq (.cond (.t 26) .skip (.exit 0)) (.seq (.block 1 (sr [oo 27 (.isl 5 (.t 23) (.t 25)),oo 28 (.load true 5 (.t 27)),oo 11 (.alloc 0 [.iv (.int .i64 0),.iv (.int .i64 0),.iv (.nsl 16),.iv (.int .i64 0),.iv (.int .i64 0)]),on (.store 5 (.t 11) (.t 28))] [0,1,2,6,7,8,9,11,23,24,25] (.seq (.rgn true [oa 29 0 11,od 30 (.load false 1 (.t 29)) [0],om 31 1,od 32 (.nchk (.t 31)) [2],od 33 (.fadr 1 (.t 32)) [2,3],od 34 (.load false 1 (.t 33)) [2,3,4],od 35 (.bin .eql 0 (.t 30) (.t 34)) [0,1,2,3,4,5]] [0,1,2,6,7,8,9,11,23,24,25,35]) (.cond (.t 35) (sr [om 36 9,oo 37 (.bin .add 0 (.t 36) (ci 1)),om 9 37] [0,1,2,6,7,8,9,11,23,24,25] (sr [oa 38 4 11,ol 39 38,oo 40 (.bin .eql 0 (.t 39) (ci 0))] [0,1,2,6,7,8,9,23,24,25,40] (.cond (.t 40) (rg [om 41 8,oo 42 (.bin .add 0 (.t 41) (ci 1)),om 8 42] [0,1,2,6,7,8,9,23,24,25]) .skip))) .skip)))) (rg [oo 43 (.bin .add 0 (.t 25) (ci 1)),om 25 43] [0,1,2,6,7,8,9,23,24,25]))))))) (sr [om 44 7,oo 45 (.bin .eql 0 (.t 44) (ci 0)),om 46 45,og 47 (.mov (.t 8)) 46 true,og 48 (.bin .lss 0 (.t 47) (ci 6)) 46 true,oo 49 (.pick (.t 46) (.t 48) (cb false))] [0,1,2,6,9,49] (.cond (.t 49) (.rgn true [om 50 0,om 51 0,od 52 (.nchk (.t 51)) [1],od 53 (.fadr 4 (.t 52)) [1,2],od 54 (.load false 1 (.t 53)) [1,2,3],om 55 1,od 56 (.nchk (.t 55)) [5],od 57 (.fadr 1 (.t 56)) [5,6],od 58 (.load false 1 (.t 57)) [5,6,7],om 59 9,od 60 (.bin .add 0 (.t 59) (ci 1)) [9],om 61 6,om 62 2,od 63 (.build [.iv (.int .i64 0),.iv (.int .i64 0),.iv (.nsl 16),.iv (.int .i64 0),.iv (.int .i64 0)] [(0,1,.t 58),(1,1,.t 60),(2,1,.t 61),(3,1,.t 62),(4,1,.c (.iv (.int .i64 (0))))]) [5,6,7,8,9,10,11,12],od 64 (.bsl 5 [.iv (.int .i64 0),.iv (.int .i64 0),.iv (.nsl 16),.iv (.int .i64 0),.iv (.int .i64 0)] 1 [(0,.t 63)]) [5,6,7,8,9,10,11,12,13],od 65 (.app 5 false (.t 54) (.t 64)) [1,2,3,4,5,6,7,8,9,10,11,12,13,14],od 66 (.nchk (.t 50)) [0,1,2,3,4,5,6,7,8,9,10,11,12,13,14,15],od 67 (.fadr 4 (.t 66)) [0,1,2,3,4,5,6,7,8,9,10,11,12,13,14,15,16],⟨none,.store 1 (.t 67) (.t 65),none,[0,1,2,3,4,5,6,7,8,9,10,11,12,13,14,15,16,17]⟩] []) .skip)))),none⟩
def F195:IFn:=⟨4,[.t 8],sr [oo 5 (.box 0 (.t 1)),oo 6 (.box 0 (.t 2)),oo 7 (.box 0 (.t 3)),oo 8 (.mov (cb false))] [0,5,6,7] (sr [om 9 0,oc 10 9,oa 11 4 10,ol 12 11,oo 13 (.mkf 196 [] [.t 5,.t 6,.t 7]),oo 14 (.scall (.c (.iv (.fn 142 []))) [.t 12,.t 13]),om 8 14] [8] .ret),none⟩
def F196:IFn:=⟨4,[.t 5],sr [oo 4 (.box 0 (.t 0)),oo 5 (.mov (cb false))] [1,2,3,4] (sr [oa 6 0 4,ol 7 6,ol 8 1,ob 9 .eql 7 8,om 10 9,og 11 (.load false 1 (.t 2)) 10 true,og 12 (.scall (.c (.iv (.fn 174 []))) [.t 4,.t 11]) 10 true,oo 13 (.pick (.t 10) (.t 12) (cb false)),om 14 13,og 15 (.fadr 2 (.t 4)) 14 true,og 16 (.load false 1 (.t 15)) 14 true,og 17 (.load true 12 (.t 3)) 14 true,og 18 (.call 0 (.c (.iv (.fn 119 []))) [.t 16,.t 17]) 14 true,oo 19 (.pick (.t 14) (.t 18) (cb false)),om 5 19] [5] .ret),none⟩
def F276:IFn:=⟨5,[.t 10],.seq (.rgn false [oo 5 (.box 0 (.t 0)),oo 10 (.mov (cb false))] [1,2,3,4,5]) (.seq (.seq (.rgn false [oo 14 (.scall (.c (.iv (.fn 158 []))) []),oo 15 (.un .not (.t 14)),om 16 15,og 17 (.load true 4 (.t 5)) 16 false,og 18 (.mov (.t 1)) 16 false,og 19 (.mov (.t 2)) 16 false,og 20 (.mov (.t 3)) 16 false,og 21 (.scall (.c (.iv (.fn 159 []))) [.t 17,.t 18,.t 19,.t 20]) 16 false,og 22 (.un .not (.t 21)) 16 false,oo 23 (.pick (.t 16) (cb true) (.t 22))] [1,2,3,4,5,23]) (.cond (.t 23) (.seq (.rgn false [oo 24 (.scall (.c (.iv (.fn 158 []))) []),om 10 24] [10]) .ret) .skip)) (.seq (.rgn true [om 25 4,od 26 (.cvi .u64 (.t 25)) [0],om 27 2,od 28 (.len false (.t 27)) [2],od 29 (.bin .add 0 (.t 28) (ci 1)) [2,3],od 30 (.cvi .u64 (.t 29)) [2,3,4],od 31 (.bin .rem 0 (.t 26) (.t 30)) [0,1,2,3,4,5],od 32 (.cvi .i64 (.t 31)) [0,1,2,3,4,5,6],om 33 4,od 34 (.cvi .u64 (.t 33)) [8],om 35 3,od 36 (.len false (.t 35)) [10],od 37 (.bin .add 0 (.t 36) (ci 1)) [10,11],od 38 (.cvi .u64 (.t 37)) [10,11,12],od 39 (.bin .rem 0 (.t 34) (.t 38)) [8,9,10,11,12,13],od 40 (.cvi .i64 (.t 39)) [8,9,10,11,12,13,14],od 11 (.mov (.t 32)) [0,1,2,3,4,5,6,7],od 12 (.mov (.t 40)) [0,1,2,3,4,5,6,7,8,9,10,11,12,13,14,15,16]] [1,2,3,5,11,12]) (.seq (.rgn false [oo 13 (.mov (.c (.iv (.fn 205 []))))] [1,2,3,5,11,12,13]) (.seq (.rgn true [oo 41 (.load true 4 (.t 5)),om 42 1,om 43 2,om 44 11,od 45 (.slc 3 (.t 43) none (some (.t 44))) [2,3],od 46 (.scall (.c (.iv (.fn 154 []))) [.t 41,.t 42,.t 45]) [0,1,2,3,4],om 47 13,oo 48 (.load true 4 (.t 5)),om 49 1,om 50 2,od 51 (.scall (.c (.iv (.fn 154 []))) [.t 48,.t 49,.t 50]) [0,1,2,3,4,5,7,8,9],om 52 11,od 53 (.scall (.t 47) [.t 51,.t 52]) [0,1,2,3,4,5,6,7,8,9,10,11],od 54 (.call 0 (.c (.iv (.fn 171 []))) [.t 46,.t 53]) [0,1,2,3,4,5,6,7,8,9,10,11,12],od 55 (.mov (.t 54)) [0,1,2,3,4,5,6,7,8,9,10,11,12,13],oe 56 (.load true 4 (.t 5)) 55 true [0,1,2,3,4,5,6,7,8,9,10,11,12,13,14],oe 57 (.mov (.t 1)) 55 true [0,1,2,3,4,5,6,7,8,9,10,11,12,13,14],oe 58 (.mov (.t 3)) 55 true [0,1,2,3,4,5,6,7,8,9,10,11,12,13,14],oe 59 (.mov (.t 12)) 55 true [0,1,2,3,4,5,6,7,8,9,10,11,12,13,14],oe 60 (.slc 4 (.t 58) none (some (.t 59))) 55 true [0,1,2,3,4,5,6,7,8,9,10,11,12,13,14,17,18],oe 61 (.scall (.c (.iv (.fn 155 []))) [.t 56,.t 57,.t 60]) 55 true [0,1,2,3,4,5,6,7,8,9,10,11,12,13,14,15,16,17,18,19],oe 62 (.mov (.t 13)) 55 true [0,1,2,3,4,5,6,7,8,9,10,11,12,13,14],oe 63 (.load true 4 (.t 5)) 55 true [0,1,2,3,4,5,6,7,8,9,10,11,12,13,14],oe 64 (.mov (.t 1)) 55 true [0,1,2,3,4,5,6,7,8,9,10,11,12,13,14],oe 65 (.mov (.t 3)) 55 true [0,1,2,3,4,5,6,7,8,9,10,11,12,13,14],oe 66 (.scall (.c (.iv (.fn 155 []))) [.t 63,.t 64,.t 65]) 55 true [0,1,2,3,4,5,6,7,8,9,10,11,12,13,14,15,16,17,18,19,20,22,23,24],oe 67 (.mov (.t 12)) 55 true [0,1,2,3,4,5,6,7,8,9,10,11,12,13,14],oe 68 (.scall (.t 62) [.t 66,.t 67]) 55 true [0,1,2,3,4,5,6,7,8,9,10,11,12,13,14,15,16,17,18,19,20,21,22,23,24,25,26],oe 69 (.call 0 (.c (.iv (.fn 171 []))) [.t 61,.t 68]) 55 true [0,1,2,3,4,5,6,7,8,9,10,11,12,13,14,15,16,17,18,19,20,21,22,23,24,25,26,27],od 70 (.pick (.t 55) (.t 69) (cb false)) [0,1,2,3,4,5,6,7,8,9,10,11,12,13,14,15,16,17,18,19,20,21,22,23,24,25,26,27,28],od 71 (.mov (.t 70)) [0,1,2,3,4,5,6,7,8,9,10,11,12,13,14,15,16,17,18,19,20,21,22,23,24,25,26,27,28,29],oe 72 (.load true 4 (.t 5)) 71 true [0,1,2,3,4,5,6,7,8,9,10,11,12,13,14,15,16,17,18,19,20,21,22,23,24,25,26,27,28,29,30],oe 73 (.mov (.t 1)) 71 true [0,1,2,3,4,5,6,7,8,9,10,11,12,13,14,15,16,17,18,19,20,21,22,23,24,25,26,27,28,29,30],oe 74 (.mov (.t 2)) 71 true [0,1,2,3,4,5,6,7,8,9,10,11,12,13,14,15,16,17,18,19,20,21,22,23,24,25,26,27,28,29,30],oe 75 (.scall (.c (.iv (.fn 153 []))) [.t 72,.t 73,.t 74]) 71 true [0,1,2,3,4,5,6,7,8,9,10,11,12,13,14,15,16,17,18,19,20,21,22,23,24,25,26,27,28,29,30,31,32,33],oe 76 (.len false (.t 75)) 71 true [0,1,2,3,4,5,6,7,8,9,10,11,12,13,14,15,16,17,18,19,20,21,22,23,24,25,26,27,28,29,30,31,32,33,34],oe 77 (.load true 4 (.t 5)) 71 true [0,1,2,3,4,5,6,7,8,9,10,11,12,13,14,15,16,17,18,19,20,21,22,23,24,25,26,27,28,29,30],oe 78 (.mov (.t 1)) 71 true [0,1,2,3,4,5,6,7,8,9,10,11,12,13,14,15,16,17,18,19,20,21,22,23,24,25,26,27,28,29,30],oe 79 (.mov (.t 2)) 71 true [0,1,2,3,4,5,6,7,8,9,10,11,12,13,14,15,16,17,18,19,20,21,22,23,24,25,26,27,28,29,30],oe 80 (.mov (.t 11)) 71 true [0,1,2,3,4,5,6,7,8,9,10,11,12,13,14,15,16,17,18,19,20,21,22,23,24,25,26,27,28,29,30],oe 81 (.slc 3 (.t 79) none (some (.t 80))) 71 true [0,1,2,3,4,5,6,7,8,9,10,11,12,13,14,15,16,17,18,19,20,21,22,23,24,25,26,27,28,29,30,38,39],oe 82 (.scall (.c (.iv (.fn 153 []))) [.t 77,.t 78,.t 81]) 71 true [0,1,2,3,4,5,6,7,8,9,10,11,12,13,14,15,16,17,18,19,20,21,22,23,24,25,26,27,28,29,30,31,32,33,34,36,37,38,39,40],oe 83 (.len false (.t 82)) 71 true [0,1,2,3,4,5,6,7,8,9,10,11,12,13,14,15,16,17,18,19,20,21,22,23,24,25,26,27,28,29,30,31,32,33,34,36,37,38,39,40,41],oe 84 (.bin .leq 0 (.t 76) (.t 83)) 71 true [0,1,2,3,4,5,6,7,8,9,10,11,12,13,14,15,16,17,18,19,20,21,22,23,24,25,26,27,28,29,30,31,32,33,34,35,36,37,38,39,40,41,42],od 85 (.pick (.t 71) (.t 84) (cb false)) [0,1,2,3,4,5,6,7,8,9,10,11,12,13,14,15,16,17,18,19,20,21,22,23,24,25,26,27,28,29,30,31,32,33,34,35,36,37,38,39,40,41,42,43],od 10 (.mov (.t 85)) [0,1,2,3,4,5,6,7,8,9,10,11,12,13,14,15,16,17,18,19,20,21,22,23,24,25,26,27,28,29,30,31,32,33,34,35,36,37,38,39,40,41,42,43,44]] [10]) .ret)))),none⟩
def F205:IFn:=⟨2,[.t 4],sr [oo 4 (.mov (.c (.iv (.nsl 1))))] [0,1] (sr [oo 5 (.mov (.c (.iv (.nsl 1))))] [0,1,5] (.seq (sr [om 8 0,oo 9 (.len false (.t 8)),oo 10 (.mov (ci 0))] [1,5,8,9,10] (.block 0 (.loop [1,5,8,9,10] (sr [ob 11 .lss 10 9] [1,5,8,9,10,11] (.seq (.cond (.t 11) .skip (.exit 0)) (.seq (.block 1 (sr [oo 12 (.isl 1 (.t 8) (.t 10)),ol 13 12,om 7 13] [1,5,7,8,9,10] (sr [om 14 7,om 15 1,ob 16 .lss 14 15] [1,5,7,8,9,10,16] (.cond (.t 16) (rg [om 17 5,om 18 7,oo 19 (.bsl 1 [.iv (.int .i64 0)] 1 [(0,.t 18)]),oo 20 (.app 1 false (.t 17) (.t 19)),om 5 20] [1,5,8,9,10]) .skip)))) (rg [oo 21 (.bin .add 0 (.t 10) (ci 1)),om 10 21] [1,5,8,9,10]))))))) (sr [om 22 5,om 4 22] [4] .ret))),none⟩
def F158:IFn:=⟨0,[.t 0],sr [oo 0 (.mov (cb false))] [] (sr [oo 8 (.scall (.c (.iv (.fn 173 []))) []),om 7 8,oo 9 (.ext (.t 7) 0),oo 10 (.ext (.t 7) 1),oo 1 (.alloc 0 [.iv (.nsl 1),.iv (.nsl 1),.iv (.int .i64 0),.iv (.int .u64 0)]),on (.store 4 (.t 1) (.t 9)),om 2 10] [1,2] (sr [oo 11 (.build [.iv (.int .i64 0),.iv (.int .i64 0),.iv (.int .i64 0)] [(0,1,.c (.iv (.int .i64 (1)))),(1,1,.c (.iv (.int .i64 (1)))),(2,1,.c (.iv (.int .i64 (4))))]),oo 3 (.alloc 0 [.iv (.int .i64 0),.iv (.int .i64 0),.iv (.int .i64 0)]),on (.store 3 (.t 3) (.t 11))] [1,2,3] (sr [oo 12 (.build [.iv (.int .i64 0),.iv (.int .i64 0),.iv (.int .i64 0),.iv (.int .i64 0)] [(0,1,.c (.iv (.int .i64 (0)))),(1,1,.c (.iv (.int .i64 (1)))),(2,1,.c (.iv (.int .i64 (1)))),(3,1,.c (.iv (.int .i64 (3))))]),oo 4 (.alloc 0 [.iv (.int .i64 0),.iv (.int .i64 0),.iv (.int .i64 0),.iv (.int .i64 0)]),on (.store 4 (.t 4) (.t 12))] [1,2,3,4] (sr [oo 13 (.load true 4 (.t 1)),om 14 2,oo 15 (.scall (.c (.iv (.fn 153 []))) [.t 13,.t 14,.c (.iv (.nsl 3))]),om 5 15] [1,2,3,4,5] (sr [oo 16 (.load true 4 (.t 1)),om 17 2,oo 18 (.load true 4 (.t 4)),oo 19 (.load true 4 (.t 4)),oo 20 (.bsl 4 [.iv (.int .i64 0),.iv (.int .i64 0),.iv (.int .i64 0),.iv (.int .i64 0)] 2 [(0,.t 18),(1,.t 19)]),oo 21 (.scall (.c (.iv (.fn 172 []))) [.t 16,.t 17,.t 20]),om 6 21] [1,2,3,4,5,6] (sr [oo 22 (.load true 4 (.t 1)),om 23 2,oo 24 (.load true 3 (.t 3)),oo 25 (.bsl 3 [.iv (.int .i64 0),.iv (.int .i64 0),.iv (.int .i64 0)] 1 [(0,.t 24)]),oo 26 (.scall (.c (.iv (.fn 154 []))) [.t 22,.t 23,.t 25]),oo 27 (.len false (.t 26)),oo 28 (.bin .eql 0 (.t 27) (ci 0)),om 29 28,og 30 (.load true 4 (.t 1)) 29 true,og 31 (.mov (.t 2)) 29 true,og 32 (.load true 3 (.t 3)) 29 true,og 33 (.load true 3 (.t 3)) 29 true,og 34 (.bsl 3 [.iv (.int .i64 0),.iv (.int .i64 0),.iv (.int .i64 0)] 2 [(0,.t 32),(1,.t 33)]) 29 true,og 35 (.scall (.c (.iv (.fn 154 []))) [.t 30,.t 31,.t 34]) 29 true,og 36 (.bsl 1 [.iv (.int .i64 0)] 1 [(0,.c (.iv (.int .i64 (1))))]) 29 true,og 37 (.call 0 (.c (.iv (.fn 171 []))) [.t 35,.t 36]) 29 true,oo 38 (.pick (.t 29) (.t 37) (cb false)),om 39 38,og 40 (.mov (.t 5)) 39 true,og 41 (.len false (.t 40)) 39 true,og 42 (.bin .eql 0 (.t 41) (ci 1)) 39 true,oo 43 (.pick (.t 39) (.t 42) (cb false)),om 44 43,og 45 (.mov (.t 5)) 44 true,og 46 (.isl 2 (.t 45) (ci 0)) 44 true,og 47 (.load true 2 (.t 46)) 44 true,og 48 (.build [.iv (.int .i64 0),.iv (.int .i64 0)] [(0,1,.c (.iv (.int .i64 (1)))),(1,1,.c (.iv (.int .i64 (1))))]) 44 true,og 49 (.eqc false [0,0] (.t 47) (.t 48)) 44 true,oo 50 (.pick (.t 44) (.t 49) (cb false)),om 51 50,og 52 (.load true 4 (.t 1)) 51 true,og 53 (.mov (.t 2)) 51 true,og 54 (.load true 3 (.t 3)) 51 true,og 55 (.bsl 3 [.iv (.int .i64 0),.iv (.int .i64 0),.iv (.int .i64 0)] 1 [(0,.t 54)]) 51 true,og 56 (.scall (.c (.iv (.fn 153 []))) [.t 52,.t 53,.t 55]) 51 true,og 57 (.len false (.t 56)) 51 true,og 58 (.bin .eql 0 (.t 57) (ci 0)) 51 true,oo 59 (.pick (.t 51) (.t 58) (cb false)),om 60 59,og 61 (.load true 4 (.t 1)) 60 true,og 62 (.mov (.t 2)) 60 true,og 63 (.load true 4 (.t 4)) 60 true,og 64 (.load true 4 (.t 4)) 60 true,og 65 (.bsl 4 [.iv (.int .i64 0),.iv (.int .i64 0),.iv (.int .i64 0),.iv (.int .i64 0)] 2 [(0,.t 63),(1,.t 64)]) 60 true,og 66 (.scall (.c (.iv (.fn 155 []))) [.t 61,.t 62,.t 65]) 60 true,og 67 (.bsl 1 [.iv (.int .i64 0)] 1 [(0,.c (.iv (.int .i64 (1))))]) 60 true,og 68 (.call 0 (.c (.iv (.fn 171 []))) [.t 66,.t 67]) 60 true,oo 69 (.pick (.t 60) (.t 68) (cb false)),om 70 69,og 71 (.mov (.t 6)) 70 true,og 72 (.len false (.t 71)) 70 true,og 73 (.bin .eql 0 (.t 72) (ci 2)) 70 true,oo 74 (.pick (.t 70) (.t 73) (cb false)),om 75 74,og 76 (.mov (.t 6)) 75 true,og 77 (.isl 1 (.t 76) (ci 0)) 75 true,og 78 (.load false 1 (.t 77)) 75 true,og 79 (.bin .eql 0 (.t 78) (.c (.iv (.int .u64 (0))))) 75 true,oo 80 (.pick (.t 75) (.t 79) (cb false)),om 81 80,og 82 (.mov (.t 6)) 81 true,og 83 (.isl 1 (.t 82) (ci 1)) 81 true,og 84 (.load false 1 (.t 83)) 81 true,og 85 (.bin .eql 0 (.t 84) (.c (.iv (.int .u64 (18446744073709551615))))) 81 true,oo 86 (.pick (.t 81) (.t 85) (cb false)),om 0 86] [0] .ret)))))),none⟩
def F159:IFn:=⟨4,[.t 8],sr [oo 4 (.box 0 (.t 0)),oo 8 (.mov (cb false))] [1,2,3,4] (sr [oo 9 (.load true 4 (.t 4)),om 10 1,oo 11 (.call 0 (.c (.iv (.fn 201 []))) [.t 9,.t 10]),om 12 11,og 13 (.mov (.t 2)) 12 true,og 14 (.len false (.t 13)) 12 true,og 15 (.bin .leq 0 (.t 14) (ci 100)) 12 true,oo 16 (.pick (.t 12) (.t 15) (cb false)),om 17 16,og 18 (.mov (.t 3)) 17 true,og 19 (.len false (.t 18)) 17 true,og 20 (.bin .leq 0 (.t 19) (ci 100)) 17 true,oo 21 (.pick (.t 17) (.t 20) (cb false)),om 8 21] [8] .ret),none⟩
def F173:IFn:=⟨0,[.cell 0 true 4,.t 1],sr [oo 0 (.alloc 0 [.iv (.nsl 1),.iv (.nsl 1),.iv (.int .i64 0),.iv (.int .u64 0)]),oo 1 (.mov (.c (.iv (.nsl 24))))] [0] (sr [oo 2 (.bsl 1 [.iv (.int .i64 0)] 1 [(0,.c (.iv (.int .i64 (0))))]),oo 3 (.bsl 1 [.iv (.int .i64 0)] 2 [(0,.c (.iv (.int .i64 (0)))),(1,.c (.iv (.int .i64 (1))))]),oo 4 (.build [.iv (.nsl 1),.iv (.nsl 1),.iv (.int .i64 0),.iv (.int .u64 0)] [(0,1,.t 2),(1,1,.t 3)]),oo 5 (.scall (.c (.iv (.fn 193 []))) [.c (.iv (.nsl 7))]),⟨some 6,.build [.iv (.int .i64 0),.iv (.int .i64 0),.iv (.int .i64 0),.iv (.int .i64 0),.iv (.int .i64 0),.iv (.int .i64 0),.iv (.int .i64 0),.iv (.bool false),.iv (.nsl 2),.iv (.bool false),.iv (.nsl 1),.iv (.nsl 7),.iv (.int .i64 0),.iv (.int .i64 0),.iv (.str ⟨#[]⟩),.iv (.int .i64 0),.iv (.int .i64 0),.iv (.str ⟨#[]⟩),.iv (.int .i64 0),.iv (.int .i64 0),.iv (.str ⟨#[]⟩),.iv (.int .i64 0),.iv (.int .i64 0),.iv (.str ⟨#[]⟩)] [(0,1,.c (.iv (.int .i64 (1)))),(1,1,.c (.iv (.int .i64 (1)))),(5,7,.t 5)],none,[]⟩,⟨some 7,.build [.iv (.int .i64 0),.iv (.int .i64 0),.iv (.int .i64 0),.iv (.int .i64 0),.iv (.int .i64 0),.iv (.int .i64 0),.iv (.int .i64 0),.iv (.bool false),.iv (.nsl 2),.iv (.bool false),.iv (.nsl 1),.iv (.nsl 7),.iv (.int .i64 0),.iv (.int .i64 0),.iv (.str ⟨#[]⟩),.iv (.int .i64 0),.iv (.int .i64 0),.iv (.str ⟨#[]⟩),.iv (.int .i64 0),.iv (.int .i64 0),.iv (.str ⟨#[]⟩),.iv (.int .i64 0),.iv (.int .i64 0),.iv (.str ⟨#[]⟩)] [(0,1,.c (.iv (.int .i64 (5))))],none,[]⟩,⟨some 8,.build [.iv (.int .i64 0),.iv (.int .i64 0),.iv (.int .i64 0),.iv (.int .i64 0),.iv (.int .i64 0),.iv (.int .i64 0),.iv (.int .i64 0),.iv (.bool false),.iv (.nsl 2),.iv (.bool false),.iv (.nsl 1),.iv (.nsl 7),.iv (.int .i64 0),.iv (.int .i64 0),.iv (.str ⟨#[]⟩),.iv (.int .i64 0),.iv (.int .i64 0),.iv (.str ⟨#[]⟩),.iv (.int .i64 0),.iv (.int .i64 0),.iv (.str ⟨#[]⟩),.iv (.int .i64 0),.iv (.int .i64 0),.iv (.str ⟨#[]⟩)] [(0,1,.c (.iv (.int .i64 (3))))],none,[]⟩,⟨some 9,.build [.iv (.int .i64 0),.iv (.int .i64 0),.iv (.int .i64 0),.iv (.int .i64 0),.iv (.int .i64 0),.iv (.int .i64 0),.iv (.int .i64 0),.iv (.bool false),.iv (.nsl 2),.iv (.bool false),.iv (.nsl 1),.iv (.nsl 7),.iv (.int .i64 0),.iv (.int .i64 0),.iv (.str ⟨#[]⟩),.iv (.int .i64 0),.iv (.int .i64 0),.iv (.str ⟨#[]⟩),.iv (.int .i64 0),.iv (.int .i64 0),.iv (.str ⟨#[]⟩),.iv (.int .i64 0),.iv (.int .i64 0),.iv (.str ⟨#[]⟩)] [(0,1,.c (.iv (.int .i64 (5))))],none,[]⟩,⟨some 10,.bsl 24 [.iv (.int .i64 0),.iv (.int .i64 0),.iv (.int .i64 0),.iv (.int .i64 0),.iv (.int .i64 0),.iv (.int .i64 0),.iv (.int .i64 0),.iv (.bool false),.iv (.nsl 2),.iv (.bool false),.iv (.nsl 1),.iv (.nsl 7),.iv (.int .i64 0),.iv (.int .i64 0),.iv (.str ⟨#[]⟩),.iv (.int .i64 0),.iv (.int .i64 0),.iv (.str ⟨#[]⟩),.iv (.int .i64 0),.iv (.int .i64 0),.iv (.str ⟨#[]⟩),.iv (.int .i64 0),.iv (.int .i64 0),.iv (.str ⟨#[]⟩)] 4 [(0,.t 6),(1,.t 7),(2,.t 8),(3,.t 9)],none,[]⟩,on (.store 4 (.t 0) (.t 4)),om 1 10] [0,1] .ret),none⟩
def F184:IFn:=⟨1,[.t 2,.t 3],sr [oo 1 (.box 0 (.t 0)),oo 2 (.mov (.c (.iv (.nsl 16)))),oo 3 (.mov (ci 0))] [1] (.seq (sr [oo 6 (.load true 7 (.t 1)),oo 7 (.scall (.c (.iv (.fn 186 []))) [.t 6]),oo 8 (.un .not (.t 7))] [1,8] (.cond (.t 8) (sr [oo 2 (.mov (.c (.iv (.nsl 16)))),oo 3 (.mov (ci 2))] [2,3] .ret) .skip)) (sr [oo 10 (.scall (.c (.iv (.fn 185 []))) [.t 1,.c (.iv (.bool false))]),om 9 10,oo 11 (.ext (.t 9) 0),oo 12 (.ext (.t 9) 1),om 4 11,om 5 12] [4,5] (.seq (sr [om 13 5,oo 14 (.bin .neq 0 (.t 13) (ci 0)),om 15 14,og 16 (.mov (.t 4)) 15 false,og 17 (.call 0 (.c (.iv (.fn 30 []))) [.t 16]) 15 false,og 18 (.un .not (.t 17)) 15 false,oo 19 (.pick (.t 15) (cb true) (.t 18))] [4,19] (.cond (.t 19) (sr [oo 2 (.mov (.c (.iv (.nsl 16)))),oo 3 (.mov (ci 4))] [2,3] .ret) .skip)) (sr [om 20 4,om 2 20,oo 3 (.mov (ci 0))] [2,3] .ret)))),none⟩
def F185:IFn:=⟨2,[.t 4,.t 5],.seq (.rgn false [oo 4 (.mov (.c (.iv (.nsl 16)))),oo 5 (.mov (ci 0))] [0,1]) (.seq (.rgn false [oo 6 (.mov (.c (.iv (.nsl 16))))] [0,1,6]) (.seq (.seq (.rgn false [om 11 0,oc 12 11,oa 13 0 12,ol 14 13,oo 15 (.bin .eql 0 (.t 14) (ci 2)),om 16 1,oo 17 (.bin .neq 1 (.t 15) (.t 16)),om 7 17] [0,1,6,7]) (.block 0 (.seq (.rgn false [om 58 0,oc 59 58,oa 60 0 59,ol 61 60,oo 62 (.bin .eql 0 (.t 61) (ci 1)),om 63 62,og 64 (.mov (.t 1)) 63 true,oo 65 (.pick (.t 63) (.t 64) (cb false)),om 57 65] [0,1,6,7,57]) (.cond (.t 57) (.seq (.rgn true [om 66 0,od 67 (.nchk (.t 66)) [0],od 68 (.fadr 1 (.t 67)) [0,1],od 69 (.load false 1 (.t 68)) [0,1,2],om 70 0,od 71 (.nchk (.t 70)) [4],od 72 (.fadr 2 (.t 71)) [4,5],od 73 (.load true 4 (.t 72)) [4,5,6],od 74 (.call 3 (.c (.iv (.fn 129 []))) [.t 73]) [4,5,6,7],od 75 (.call 3 (.c (.iv (.fn 26 []))) [.t 69,.t 74]) [0,1,2,3,4,5,6,7,8],od 76 (.bsl 16 [.iv (.bool false),.iv (.nsl 2),.iv (.bool false),.iv (.nsl 1),.iv (.bool false),.iv (.nsl 2),.iv (.bool false),.iv (.nsl 1),.iv (.bool false),.iv (.nsl 2),.iv (.bool false),.iv (.nsl 1),.iv (.bool false),.iv (.nsl 2),.iv (.bool false),.iv (.nsl 1)] 1 [(0,.t 75)]) [0,1,2,3,4,5,6,7,8,9],od 77 (.call 3 (.c (.iv (.fn 47 []))) [.t 76]) [0,1,2,3,4,5,6,7,8,9,10],od 4 (.mov (.t 77)) [0,1,2,3,4,5,6,7,8,9,10,11],od 5 (.mov (ci 0)) [0,1,2,3,4,5,6,7,8,9,10,11,12]] [4,5]) .ret) (.seq (.rgn false [om 79 0,oc 80 79,oa 81 0 80,ol 82 81,oo 83 (.bin .eql 0 (.t 82) (ci 1)),om 78 83] [0,1,6,7,78]) (.cond (.t 78) (.seq (.rgn true [om 84 0,od 85 (.nchk (.t 84)) [0],od 86 (.fadr 1 (.t 85)) [0,1],od 87 (.load false 1 (.t 86)) [0,1,2],om 88 0,od 89 (.nchk (.t 88)) [4],od 90 (.fadr 2 (.t 89)) [4,5],od 91 (.load true 4 (.t 90)) [4,5,6],od 92 (.call 3 (.c (.iv (.fn 26 []))) [.t 87,.t 91]) [0,1,2,3,4,5,6,7],od 93 (.bsl 16 [.iv (.bool false),.iv (.nsl 2),.iv (.bool false),.iv (.nsl 1),.iv (.bool false),.iv (.nsl 2),.iv (.bool false),.iv (.nsl 1),.iv (.bool false),.iv (.nsl 2),.iv (.bool false),.iv (.nsl 1),.iv (.bool false),.iv (.nsl 2),.iv (.bool false),.iv (.nsl 1)] 1 [(0,.t 92)]) [0,1,2,3,4,5,6,7,8],od 94 (.call 3 (.c (.iv (.fn 47 []))) [.t 93]) [0,1,2,3,4,5,6,7,8,9],od 4 (.mov (.t 94)) [0,1,2,3,4,5,6,7,8,9,10],od 5 (.mov (ci 0)) [0,1,2,3,4,5,6,7,8,9,10,11]] [4,5]) .ret) (.seq (.rgn false [om 96 0,oc 97 96,oa 98 0 97,ol 99 98,oo 100 (.bin .eql 0 (.t 99) (ci 4)),om 95 100] [0,1,6,7,95]) (.cond (.t 95) (.seq (.rgn false [om 101 0,oc 102 101,oa 103 6 102,ol 104 103,oo 105 (.isl 7 (.t 104) (ci 0)),om 106 1,oo 107 (.un .not (.t 106)),oo 108 (.scall (.c (.iv (.fn 185 []))) [.t 105,.t 107]),oo 109 (.ext (.t 108) 0),oo 110 (.ext (.t 108) 1),om 4 109,om 5 110] [4,5]) .ret) (.seq (.seq (.rgn false [om 18 7] [0,1,6,7,18]) (.cond (.t 18) (.rgn false [oo 19 (.call 3 (.c (.iv (.fn 42 []))) []),oo 20 (.bsl 16 [.iv (.bool false),.iv (.nsl 2),.iv (.bool false),.iv (.nsl 1),.iv (.bool false),.iv (.nsl 2),.iv (.bool false),.iv (.nsl 1),.iv (.bool false),.iv (.nsl 2),.iv (.bool false),.iv (.nsl 1),.iv (.bool false),.iv (.nsl 2),.iv (.bool false),.iv (.nsl 1)] 1 [(0,.t 19)]),om 6 20] [0,1,6,7]) .skip)) (.seq (.rgn false [om 21 0,oc 22 21,oa 23 6 22,ol 24 23,oo 25 (.len false (.t 24)),oo 26 (.mov (ci 0))] [0,1,6,7,25,26]) (.block 1 (.loop [0,1,6,7,25,26] (.seq (.rgn false [ob 27 .lss 26 25] [0,1,6,7,25,26,27]) (.seq (.cond (.t 27) .skip (.exit 1)) (.seq (.block 2 (.seq (.rgn false [om 28 26,om 8 28] [0,1,6,7,8,25,26]) (.seq (.rgn false [om 30 0,oc 31 30,oa 32 6 31,ol 33 32,om 34 8,oo 35 (.isl 7 (.t 33) (.t 34)),om 36 1,oo 37 (.scall (.c (.iv (.fn 185 []))) [.t 35,.t 36]),om 29 37,oo 38 (.ext (.t 29) 0),oo 39 (.ext (.t 29) 1),om 9 38,om 10 39] [0,1,6,7,9,10,25,26]) (.seq (.seq (.rgn false [om 40 10,oo 41 (.bin .neq 0 (.t 40) (ci 0))] [0,1,6,7,9,10,25,26,41]) (.cond (.t 41) (.seq (.rgn false [om 42 10,oo 4 (.mov (.c (.iv (.nsl 16)))),om 5 42] [4,5]) .ret) .skip)) (.seq (.seq (.rgn false [om 43 7] [0,1,6,7,9,25,26,43]) (.cond (.t 43) (.rgn false [om 44 6,om 45 9,oo 46 (.call 3 (.c (.iv (.fn 121 []))) [.t 44,.t 45]),oo 47 (.call 3 (.c (.iv (.fn 47 []))) [.t 46]),om 6 47] [0,1,6,7,25,26]) (.rgn false [om 48 6,om 49 9,oo 50 (.bsl 1 [.iv (.nsl 16)] 2 [(0,.t 48),(1,.t 49)]),oo 51 (.scall (.c (.iv (.fn 187 []))) [.t 50]),oo 52 (.call 3 (.c (.iv (.fn 47 []))) [.t 51]),om 6 52] [0,1,6,7,25,26]))) (.seq (.rgn false [om 53 6,oo 54 (.len false (.t 53)),oo 55 (.bin .gtr 0 (.t 54) (ci 16))] [0,1,6,7,25,26,55]) (.cond (.t 55) (.seq (.rgn false [oo 4 (.mov (.c (.iv (.nsl 16)))),oo 5 (.mov (ci 4))] [4,5]) .ret) .skip))))))) (.rgn false [oo 56 (.bin .add 0 (.t 26) (ci 1)),om 26 56] [0,1,6,7,25,26])))))))))))))))) (.seq (.rgn false [om 111 6,om 4 111,oo 5 (.mov (ci 0))] [4,5]) .ret))),none⟩
def F193:IFn:=⟨1,[.cell 2 true 7],sr [oo 2 (.alloc 0 [.iv (.int .i64 0),.iv (.int .i64 0),.iv (.bool false),.iv (.nsl 2),.iv (.bool false),.iv (.nsl 1),.iv (.nsl 7)])] [0,2] (sr [om 3 0,oo 4 (.scall (.c (.iv (.fn 194 []))) [.t 3]),oo 5 (.build [.iv (.int .i64 0),.iv (.int .i64 0),.iv (.bool false),.iv (.nsl 2),.iv (.bool false),.iv (.nsl 1),.iv (.nsl 7)] [(0,1,.c (.iv (.int .i64 (2)))),(6,1,.t 4)]),on (.store 7 (.t 2) (.t 5))] [2] .ret),none⟩
def F186:IFn:=⟨1,[.t 2],sr [oo 1 (.box 0 (.t 0)),oo 2 (.mov (cb false))] [1] (sr [oo 6 (.load true 7 (.t 1)),oo 7 (.scall (.c (.iv (.fn 190 []))) [.t 6]),om 5 7,oo 8 (.ext (.t 5) 0),oo 9 (.ext (.t 5) 1),om 3 8,om 4 9] [1,3] (sr [om 10 3,oo 11 (.bin .gtr 0 (.t 10) (ci 0)),om 12 11,og 13 (.scall (.c (.iv (.fn 189 []))) [.t 1]) 12 true,oo 14 (.pick (.t 12) (.t 13) (cb false)),om 2 14] [2] .ret)),none⟩
def F190:IFn:=⟨1,[.cell 2 false 1,.t 3],sr [oo 1 (.box 0 (.t 0)),oo 2 (.alloc 0 [.iv (.int .i64 0)]),oo 3 (.mov (ci 0))] [1,2] (sr [oo 6 (.scall (.c (.iv (.fn 191 []))) [.t 1,.c (.iv (.int .i64 (8))),.t 2]),om 5 6,oo 7 (.ext (.t 5) 0),oo 8 (.ext (.t 5) 1),om 3 7,om 4 8] [2,3,4] (.seq (sr [om 9 4,oo 10 (.un .not (.t 9))] [2,3,10] (.cond (.t 10) (sr [on (.store 1 (.t 2) (ci 0)),oo 3 (.mov (ci 0))] [2,3] .ret) .skip)) (sr [ol 11 2,om 12 3,on (.store 1 (.t 2) (.t 11)),om 3 12] [2,3] .ret))),none⟩
def F189:IFn:=⟨1,[.t 2],sr [oo 2 (.mov (cb false))] [0] (.seq (sr [om 4 0,oc 5 4,oa 6 6 5,ol 7 6,oo 8 (.len false (.t 7)),oo 9 (.mov (ci 0))] [0,8,9] (.block 0 (.loop [0,8,9] (sr [ob 10 .lss 9 8] [0,8,9,10] (.seq (.cond (.t 10) .skip (.exit 0)) (.seq (.block 1 (sr [om 11 9,om 3 11] [0,3,8,9] (sr [om 12 0,oc 13 12,oa 14 6 13,ol 15 14,om 16 3,oo 17 (.isl 7 (.t 15) (.t 16)),oo 18 (.scall (.c (.iv (.fn 189 []))) [.t 17]),oo 19 (.un .not (.t 18))] [0,8,9,19] (.cond (.t 19) (sr [oo 2 (.mov (cb false))] [2] .ret) .skip)))) (rg [oo 20 (.bin .add 0 (.t 9) (ci 1)),om 9 20] [0,8,9]))))))) (sr [om 21 0,oo 22 (.scall (.c (.iv (.fn 192 []))) [.t 21]),om 2 22] [2] .ret)),none⟩
def F191:IFn:=⟨3,[.t 6,.t 7],sr [oo 6 (.mov (ci 0)),oo 7 (.mov (cb false))] [0,1,2,6] (.seq (sr [om 11 2,oc 12 11,ol 13 12,oo 14 (.bin .add 0 (.t 13) (ci 1)),oc 15 11,on (.store 1 (.t 15) (.t 14))] [0,1,2,6] (sr [om 16 1,oo 17 (.bin .eql 0 (.t 16) (ci 0)),om 18 17,og 19 (.mov (.t 2)) 18 false,og 20 (.nchk (.t 19)) 18 false,og 21 (.load false 1 (.t 20)) 18 false,og 22 (.bin .gtr 0 (.t 21) (ci 40)) 18 false,oo 23 (.pick (.t 18) (cb true) (.t 22))] [0,1,2,6,23] (.cond (.t 23) (sr [oo 6 (.mov (ci 0)),oo 7 (.mov (cb false))] [6,7] .ret) .skip))) (.seq (sr [om 24 0,oc 25 24,oa 26 6 25,ol 27 26,oo 28 (.len false (.t 27)),oo 29 (.mov (ci 0))] [0,1,2,6,28,29] (.block 0 (.loop [0,1,2,6,28,29] (sr [ob 30 .lss 29 28] [0,1,2,6,28,29,30] (.seq (.cond (.t 30) .skip (.exit 0)) (.seq (.block 1 (sr [om 31 29,om 8 31] [0,1,2,6,8,28,29] (sr [om 33 0,oc 34 33,oa 35 6 34,ol 36 35,om 37 8,oo 38 (.isl 7 (.t 36) (.t 37)),om 39 1,oo 40 (.bin .sub 0 (.t 39) (ci 1)),om 41 2,oo 42 (.scall (.c (.iv (.fn 191 []))) [.t 38,.t 40,.t 41]),om 32 42,oo 43 (.ext (.t 32) 0),oo 44 (.ext (.t 32) 1),om 9 43,om 10 44] [0,1,2,6,9,10,28,29] (.seq (sr [om 45 10,oo 46 (.un .not (.t 45))] [0,1,2,6,9,28,29,46] (.cond (.t 46) (sr [oo 6 (.mov (ci 0)),oo 7 (.mov (cb false))] [6,7] .ret) .skip)) (rg [om 47 6,om 48 9,oo 49 (.mx (.t 47) [.t 48]),om 6 49] [0,1,2,6,28,29]))))) (rg [oo 50 (.bin .add 0 (.t 29) (ci 1)),om 29 50] [0,1,2,6,28,29]))))))) (sr [om 51 6,oo 52 (.bin .add 0 (.t 51) (ci 1)),om 6 52,oo 7 (.mov (cb true))] [6,7] .ret))),none⟩
def F192:IFn:=⟨1,[.t 2],sr [oo 2 (.mov (cb false))] [0] (sr [om 4 0,oc 5 4,oa 6 1 5,ol 7 6,oo 8 (.bin .eql 0 (.t 7) (ci 0)),om 9 8,og 10 (.mov (.t 0)) 9 true,og 11 (.nchk (.t 10)) 9 true,og 12 (.fadr 2 (.t 11)) 9 true,og 13 (.load true 4 (.t 12)) 9 true,og 14 (.build [.iv (.bool false),.iv (.nsl 2),.iv (.bool false),.iv (.nsl 1)] []) 9 true,og 15 (.call 0 (.c (.iv (.fn 17 []))) [.t 13,.t 14]) 9 true,oo 16 (.pick (.t 9) (.t 15) (cb false)),om 3 16] [0,3] (.seq (sr [om 17 0,oc 18 17,oa 19 0 18,ol 20 19] [0,3,20] (.block 0 (sr [oo 22 (.bin .eql 0 (.t 20) (ci 1)),om 21 22] [0,3,20,21] (.cond (.t 21) (sr [om 23 0,oc 24 23,oa 25 1 24,ol 26 25,oo 27 (.bin .geq 0 (.t 26) (ci 0)),om 28 27,og 29 (.mov (.t 0)) 28 true,og 30 (.nchk (.t 29)) 28 true,og 31 (.fadr 1 (.t 30)) 28 true,og 32 (.load false 1 (.t 31)) 28 true,og 33 (.bin .lss 0 (.t 32) (ci 4)) 28 true,oo 34 (.pick (.t 28) (.t 33) (cb false)),om 35 34,og 36 (.mov (.t 0)) 35 true,og 37 (.nchk (.t 36)) 35 true,og 38 (.fadr 6 (.t 37)) 35 true,og 39 (.load false 1 (.t 38)) 35 true,og 40 (.len false (.t 39)) 35 true,og 41 (.bin .eql 0 (.t 40) (ci 0)) 35 true,oo 42 (.pick (.t 35) (.t 41) (cb false)),om 43 42,og 44 (.mov (.t 0)) 43 true,og 45 (.nchk (.t 44)) 43 true,og 46 (.fadr 2 (.t 45)) 43 true,og 47 (.load true 4 (.t 46)) 43 true,og 48 (.call 0 (.c (.iv (.fn 58 []))) [.t 47]) 43 true,oo 49 (.pick (.t 43) (.t 48) (cb false)),om 50 49,og 51 (.mov (.t 0)) 50 true,og 52 (.nchk (.t 51)) 50 true,og 53 (.fadr 2 (.t 52)) 50 true,og 54 (.load true 4 (.t 53)) 50 true,og 55 (.call 0 (.c (.iv (.fn 24 []))) [.t 54]) 50 true,oo 56 (.pick (.t 50) (.t 55) (cb false)),om 2 56] [2] .ret) (.seq (sr [oo 58 (.bin .eql 0 (.t 20) (ci 2)),om 57 58] [0,3,20,57] (.cond (.t 57) .skip (rg [oo 59 (.bin .eql 0 (.t 20) (ci 3)),om 57 59] [0,3,20,57]))) (.cond (.t 57) (sr [om 60 3,om 2 60] [2] .ret) (sr [oo 62 (.bin .eql 0 (.t 20) (ci 4)),om 61 62] [0,3,61] (.cond (.t 61) (sr [om 63 3,om 64 63,og 65 (.mov (.t 0)) 64 true,og 66 (.nchk (.t 65)) 64 true,og 67 (.fadr 6 (.t 66)) 64 true,og 68 (.load false 1 (.t 67)) 64 true,og 69 (.len false (.t 68)) 64 true,og 70 (.bin .eql 0 (.t 69) (ci 1)) 64 true,oo 71 (.pick (.t 64) (.t 70) (cb false)),om 2 71] [2] .ret) .skip)))))))) (sr [oo 2 (.mov (cb false))] [2] .ret))),none⟩
def F153:IFn:=⟨3,[.t 6],sr [oo 3 (.box 0 (.t 0)),oo 6 (.mov (.c (.iv (.nsl 2))))] [1,2,3,6] (sr [oo 12 (.load true 4 (.t 3)),om 13 1,oo 14 (.scall (.c (.iv (.fn 177 []))) [.t 12,.t 13]),om 7 14] [2,3,6,7] (.seq (sr [oa 15 1 3,ol 16 15,oo 17 (.len false (.t 16)),oo 18 (.mov (ci 0))] [2,6,7,17,18] (.block 0 (.loop [2,6,7,17,18] (sr [ob 19 .lss 18 17] [2,6,7,17,18,19] (.seq (.cond (.t 19) .skip (.exit 0)) (.seq (.block 1 (sr [om 20 18,oo 8 (.alloc 0 [.iv (.int .i64 0)]),on (.store 1 (.t 8) (.t 20))] [2,6,7,8,17,18] (sr [om 21 7,oc 22 21,oa 23 5 22,ol 24 23,oo 25 (.len false (.t 24)),oo 26 (.mov (ci 0))] [2,6,7,8,17,18,25,26] (.block 2 (.loop [2,6,7,8,17,18,25,26] (sr [ob 27 .lss 26 25] [2,6,7,8,17,18,25,26,27] (.seq (.cond (.t 27) .skip (.exit 2)) (.seq (.block 3 (sr [om 28 26,oo 9 (.alloc 0 [.iv (.int .i64 0)]),on (.store 1 (.t 9) (.t 28))] [2,6,7,8,9,17,18,25,26] (.seq (.rgn true [om 29 7,ol 30 8,om 31 7,od 32 (.nchk (.t 31)) [2],od 33 (.fadr 5 (.t 32)) [2,3],od 34 (.load false 1 (.t 33)) [2,3,4],ol 35 9,od 36 (.isl 15 (.t 34) (.t 35)) [2,3,4,5,6],od 37 (.scall (.c (.iv (.fn 198 []))) [.t 29,.t 30,.t 36]) [0,1,2,3,4,5,6,7],oo 10 (.alloc 0 [.iv (.int .i64 0)]),⟨none,.store 1 (.t 10) (.t 37),none,[0,1,2,3,4,5,6,7,8,9]⟩] [2,6,7,8,9,10,17,18,25,26]) (sr [oo 38 (.mkf 197 [] [.t 8,.t 9,.t 10]),om 11 38] [2,6,7,8,9,10,11,17,18,25,26] (sr [ol 39 10,oo 40 (.bin .gtr 0 (.t 39) (ci 0)),om 41 40,og 42 (.mov (.t 2)) 41 true,og 43 (.mov (.t 11)) 41 true,og 44 (.scall (.c (.iv (.fn 139 []))) [.t 42,.t 43]) 41 true,og 45 (.un .not (.t 44)) 41 true,oo 46 (.pick (.t 41) (.t 45) (cb false))] [2,6,7,8,9,17,18,25,26,46] (.cond (.t 46) (rg [om 47 6,ol 48 8,ol 49 9,oo 50 (.bin .add 0 (.t 49) (ci 1)),oo 51 (.build [.iv (.int .i64 0),.iv (.int .i64 0)] [(0,1,.t 48),(1,1,.t 50)]),oo 52 (.bsl 2 [.iv (.int .i64 0),.iv (.int .i64 0)] 1 [(0,.t 51)]),oo 53 (.app 2 false (.t 47) (.t 52)),om 6 53] [2,6,7,8,17,18,25,26]) .skip)))))) (rg [oo 54 (.bin .add 0 (.t 26) (ci 1)),om 26 54] [2,6,7,8,17,18,25,26]))))))))) (rg [oo 55 (.bin .add 0 (.t 18) (ci 1)),om 18 55] [2,6,7,17,18]))))))) (sr [om 56 6,om 6 56] [6] .ret))),none⟩
def F197:IFn:=⟨4,[.t 5],sr [oo 4 (.box 0 (.t 0)),oo 5 (.mov (cb false))] [1,2,3,4] (sr [oa 6 0 4,ol 7 6,ol 8 1,ob 9 .eql 7 8,om 10 9,og 11 (.fadr 1 (.t 4)) 10 true,og 12 (.load false 1 (.t 11)) 10 true,og 13 (.load false 1 (.t 2)) 10 true,og 14 (.bin .add 0 (.t 13) (ci 1)) 10 true,og 15 (.bin .eql 0 (.t 12) (.t 14)) 10 true,oo 16 (.pick (.t 10) (.t 15) (cb false)),om 17 16,og 18 (.fadr 2 (.t 4)) 17 true,og 19 (.load false 1 (.t 18)) 17 true,og 20 (.load false 1 (.t 3)) 17 true,og 21 (.bin .leq 0 (.t 19) (.t 20)) 17 true,oo 22 (.pick (.t 17) (.t 21) (cb false)),om 5 22] [5] .ret),none⟩
def F155:IFn:=⟨3,[.t 6],sr [oo 3 (.box 0 (.t 0)),oo 6 (.mov (.c (.iv (.nsl 1))))] [1,2,3,6] (sr [oo 16 (.load true 4 (.t 3)),om 17 1,oo 18 (.scall (.c (.iv (.fn 177 []))) [.t 16,.t 17]),om 7 18] [2,3,6,7] (sr [oo 19 (.mmk),om 8 19] [2,3,6,7,8] (sr [oo 20 (.mmk),om 9 20] [2,3,6,7,8,9] (.seq (sr [om 21 2,oo 22 (.len false (.t 21)),oo 23 (.mov (ci 0))] [3,6,7,8,9,21,22,23] (.block 0 (.loop [3,6,7,8,9,21,22,23] (sr [ob 24 .lss 23 22] [3,6,7,8,9,21,22,23,24] (.seq (.cond (.t 24) .skip (.exit 0)) (.seq (.block 1 (sr [om 25 23,oo 26 (.isl 4 (.t 21) (.t 23)),oo 27 (.load true 4 (.t 26)),oo 11 (.alloc 0 [.iv (.int .i64 0),.iv (.int .i64 0),.iv (.int .i64 0),.iv (.int .i64 0)]),om 10 25,on (.store 4 (.t 11) (.t 27))] [3,6,7,8,9,10,11,21,22,23] (sr [om 28 7,oa 29 2 11,ol 30 29,oo 31 (.scall (.c (.iv (.fn 176 []))) [.t 28,.t 30]),om 12 31] [3,6,7,8,9,10,11,12,21,22,23] (.seq (sr [om 32 12,oo 33 (.bin .eql 2 (.t 32) (.c (.iv (.nilp))))] [3,6,7,8,9,10,11,12,21,22,23,33] (.cond (.t 33) (sr [om 34 6,om 35 10,oo 36 (.bsl 1 [.iv (.int .i64 0)] 1 [(0,.t 35)]),oo 37 (.app 1 false (.t 34) (.t 36)),om 6 37] [3,6,7,8,9,21,22,23] (.exit 1)) .skip)) (.seq (.rgn true [oa 38 1 3,od 39 (.load false 1 (.t 38)) [0],om 40 12,od 41 (.nchk (.t 40)) [2],od 42 (.fadr 0 (.t 41)) [2,3],od 43 (.fadr 1 (.t 42)) [2,3,4],od 44 (.load false 1 (.t 43)) [2,3,4,5],od 45 (.isl 1 (.t 39) (.t 44)) (ra 7),od 46 (.load false 1 (.t 45)) (ra 8),od 13 (.mov (.t 46)) (ra 9)] [3,6,7,8,9,10,11,12,13,21,22,23]) (sr [oa 47 0 11,ol 48 47,oa 49 1 11,ol 50 49,oa 51 2 11,ol 52 51,oo 53 (.build [.iv (.int .i64 0),.iv (.int .i64 0),.iv (.int .i64 0)] [(0,1,.t 48),(1,1,.t 50),(2,1,.t 52)]),oo 14 (.alloc 0 [.iv (.int .i64 0),.iv (.int .i64 0),.iv (.int .i64 0)]),on (.store 3 (.t 14) (.t 53))] [3,6,7,8,9,10,11,12,13,14,21,22,23] (sr [om 54 7,oa 55 0 11,ol 56 55,oa 57 1 11,ol 58 57,om 59 13,oo 60 (.scall (.c (.iv (.fn 181 []))) [.t 54,.t 56,.t 58,.t 59]),om 15 60] [3,6,7,8,9,10,11,12,13,14,15,21,22,23] (.seq (.seq (.rgn true [om 61 15,od 62 (.un .not (.t 61)) [0],od 63 (.mov (.t 62)) [0,1],oe 64 (.mov (.t 8)) 63 false [0,1,2],oe 65 (.load true 3 (.t 14)) 63 false [0,1,2],oe 66 (.mget false false [0,0,0] [.iv (.bool false)] (.t 64) (.t 65)) 63 false (ra 5),od 67 (.pick (.t 63) (cb true) (.t 66)) (ra 6),od 68 (.mov (.t 67)) (ra 7),oe 69 (.fadr 3 (.t 11)) 68 false (ra 8),oe 70 (.load false 1 (.t 69)) 68 false (ra 9),oe 71 (.mov (.t 12)) 68 false (ra 8),oe 72 (.nchk (.t 71)) 68 false [0,1,2,3,4,5,6,7,10],oe 73 (.fadr 14 (.t 72)) 68 false [0,1,2,3,4,5,6,7,10,11],oe 74 (.load false 1 (.t 73)) 68 false [0,1,2,3,4,5,6,7,10,11,12],oe 75 (.bin .lss 0 (.t 70) (.t 74)) 68 false (ra 14),od 76 (.pick (.t 68) (cb true) (.t 75)) (ra 15),od 77 (.mov (.t 76)) (ra 16),oe 78 (.fadr 0 (.t 11)) 77 false (ra 17),oe 79 (.load false 1 (.t 78)) 77 false (ra 18),oe 80 (.mov (.t 13)) 77 false (ra 17),oe 81 (.bin .neq 0 (.t 79) (.t 80)) 77 false (ra 20),oe 82 (.mov (.t 81)) 77 false (ra 21),oe 83 (.mov (.t 9)) 82 true (ra 22),oe 84 (.fadr 0 (.t 11)) 82 true (ra 22),oe 85 (.load false 1 (.t 84)) 82 true [0,1,2,3,4,5,6,7,8,9,10,11,12,13,14,15,16,17,18,19,20,21,23],oe 86 (.fadr 2 (.t 11)) 82 true (ra 22),oe 87 (.load false 1 (.t 86)) 82 true [0,1,2,3,4,5,6,7,8,9,10,11,12,13,14,15,16,17,18,19,20,21,25],oe 88 (.build [.iv (.int .i64 0),.iv (.int .i64 0)] [(0,1,.t 85),(1,1,.t 87)]) 82 true [0,1,2,3,4,5,6,7,8,9,10,11,12,13,14,15,16,17,18,19,20,21,23,24,25,26],oe 89 (.mget false false [0,0] [.iv (.bool false)] (.t 83) (.t 88)) 82 true (ra 28),oe 90 (.un .not (.t 89)) 82 true (ra 29),oe 91 (.pick (.t 82) (.t 90) (cb false)) 77 false (ra 30),od 92 (.pick (.t 77) (cb true) (.t 91)) (ra 31)] [3,6,7,8,9,10,11,14,15,21,22,23,92]) (.cond (.t 92) (rg [om 93 6,om 94 10,oo 95 (.bsl 1 [.iv (.int .i64 0)] 1 [(0,.t 94)]),oo 96 (.app 1 false (.t 93) (.t 95)),om 6 96] [3,6,7,8,9,11,14,15,21,22,23]) .skip)) (sr [om 97 8,oo 98 (.load true 3 (.t 14)),on (.mput [0,0,0] (.t 97) (.t 98) (cb true))] [3,6,7,8,9,11,15,21,22,23] (sr [om 99 15] [3,6,7,8,9,11,21,22,23,99] (.cond (.t 99) (rg [om 100 9,oa 101 1 11,ol 102 101,oa 103 2 11,ol 104 103,oo 105 (.build [.iv (.int .i64 0),.iv (.int .i64 0)] [(0,1,.t 102),(1,1,.t 104)]),on (.mput [0,0] (.t 100) (.t 105) (cb true))] [3,6,7,8,9,21,22,23]) .skip))))))))))) (rg [oo 106 (.bin .add 0 (.t 23) (ci 1)),om 23 106] [3,6,7,8,9,21,22,23]))))))) (sr [om 107 6,om 6 107] [6] .ret))))),none⟩
def F154:IFn:=⟨3,[.t 6],.seq (.rgn false [oo 3 (.box 0 (.t 0)),oo 6 (.mov (.c (.iv (.nsl 1))))] [1,2,3,6]) (.seq (.rgn false [oo 13 (.load true 4 (.t 3)),om 14 1,oo 15 (.scall (.c (.iv (.fn 177 []))) [.t 13,.t 14]),om 7 15] [1,2,6,7]) (.seq (.rgn false [oo 16 (.mmk),om 8 16] [1,2,6,7,8]) (.seq (.seq (.rgn false [om 17 2,oo 18 (.len false (.t 17)),oo 19 (.mov (ci 0))] [1,6,7,8,17,18,19]) (.block 0 (.loop [1,6,7,8,17,18,19] (.seq (.rgn false [ob 20 .lss 19 18] [1,6,7,8,17,18,19,20]) (.seq (.cond (.t 20) .skip (.exit 0)) (.seq (.block 1 (.seq (.rgn false [om 21 19,oo 22 (.isl 3 (.t 17) (.t 19)),oo 23 (.load true 3 (.t 22)),oo 10 (.alloc 0 [.iv (.int .i64 0),.iv (.int .i64 0),.iv (.int .i64 0)]),om 9 21,on (.store 3 (.t 10) (.t 23))] [1,6,7,8,9,10,17,18,19]) (.seq (.rgn false [om 24 7,oa 25 1 10,ol 26 25,oo 27 (.scall (.c (.iv (.fn 176 []))) [.t 24,.t 26]),om 11 27] [1,6,7,8,9,10,11,17,18,19]) (.seq (.seq (.rgn false [om 28 11,oo 29 (.bin .eql 2 (.t 28) (.c (.iv (.nilp))))] [1,6,7,8,9,10,11,17,18,19,29]) (.cond (.t 29) (.seq (.rgn false [om 30 6,om 31 9,oo 32 (.bsl 1 [.iv (.int .i64 0)] 1 [(0,.t 31)]),oo 33 (.app 1 false (.t 30) (.t 32)),om 6 33] [1,6,7,8,17,18,19]) (.exit 1)) .skip)) (.seq (.rgn true [oa 34 0 10,od 35 (.load false 1 (.t 34)) [0],om 36 11,od 37 (.nchk (.t 36)) [2],od 38 (.fadr 0 (.t 37)) [2,3],od 39 (.fadr 1 (.t 38)) [2,3,4],od 40 (.load false 1 (.t 39)) [2,3,4,5],od 41 (.build [.iv (.int .i64 0),.iv (.int .i64 0)] [(0,1,.t 35),(1,1,.t 40)]) [0,1,2,3,4,5,6],oo 12 (.alloc 0 [.iv (.int .i64 0),.iv (.int .i64 0)]),⟨none,.store 2 (.t 12) (.t 41),none,[0,1,2,3,4,5,6,7,8]⟩] [1,6,7,8,9,10,11,12,17,18,19]) (.seq (.seq (.rgn true [oa 42 1 10,od 43 (.load false 1 (.t 42)) [0],om 44 8,oo 45 (.load true 2 (.t 12)),od 46 (.mget false false [0,0] [.iv (.int .i64 0)] (.t 44) (.t 45)) [2,3],od 47 (.bin .leq 0 (.t 43) (.t 46)) [0,1,2,3,4],od 48 (.mov (.t 47)) [0,1,2,3,4,5],oe 49 (.fadr 2 (.t 10)) 48 false [0,1,2,3,4,5,6],oe 50 (.load false 1 (.t 49)) 48 false [0,1,2,3,4,5,6,7],oe 51 (.mov (.t 11)) 48 false [0,1,2,3,4,5,6],oe 52 (.nchk (.t 51)) 48 false [0,1,2,3,4,5,6,9],oe 53 (.fadr 14 (.t 52)) 48 false [0,1,2,3,4,5,6,9,10],oe 54 (.load false 1 (.t 53)) 48 false [0,1,2,3,4,5,6,9,10,11],oe 55 (.bin .lss 0 (.t 50) (.t 54)) 48 false [0,1,2,3,4,5,6,7,8,9,10,11,12],od 56 (.pick (.t 48) (cb true) (.t 55)) [0,1,2,3,4,5,6,7,8,9,10,11,12,13],od 57 (.mov (.t 56)) [0,1,2,3,4,5,6,7,8,9,10,11,12,13,14],oe 58 (.fadr 2 (.t 10)) 57 false [0,1,2,3,4,5,6,7,8,9,10,11,12,13,14,15],oe 59 (.load false 1 (.t 58)) 57 false [0,1,2,3,4,5,6,7,8,9,10,11,12,13,14,15,16],oe 60 (.mov (.t 1)) 57 false [0,1,2,3,4,5,6,7,8,9,10,11,12,13,14,15],oe 61 (.len false (.t 60)) 57 false [0,1,2,3,4,5,6,7,8,9,10,11,12,13,14,15,18],oe 62 (.bin .gtr 0 (.t 59) (.t 61)) 57 false [0,1,2,3,4,5,6,7,8,9,10,11,12,13,14,15,16,17,18,19],od 63 (.pick (.t 57) (cb true) (.t 62)) [0,1,2,3,4,5,6,7,8,9,10,11,12,13,14,15,16,17,18,19,20],od 64 (.mov (.t 63)) [0,1,2,3,4,5,6,7,8,9,10,11,12,13,14,15,16,17,18,19,20,21],oe 65 (.mov (.t 7)) 64 false [0,1,2,3,4,5,6,7,8,9,10,11,12,13,14,15,16,17,18,19,20,21,22],oe 66 (.fadr 0 (.t 10)) 64 false [0,1,2,3,4,5,6,7,8,9,10,11,12,13,14,15,16,17,18,19,20,21,22],oe 67 (.load false 1 (.t 66)) 64 false [0,1,2,3,4,5,6,7,8,9,10,11,12,13,14,15,16,17,18,19,20,21,22,24],oe 68 (.fadr 2 (.t 10)) 64 false [0,1,2,3,4,5,6,7,8,9,10,11,12,13,14,15,16,17,18,19,20,21,22],oe 69 (.load false 1 (.t 68)) 64 false [0,1,2,3,4,5,6,7,8,9,10,11,12,13,14,15,16,17,18,19,20,21,22,26],oe 70 (.mov (.t 11)) 64 false [0,1,2,3,4,5,6,7,8,9,10,11,12,13,14,15,16,17,18,19,20,21,22],oe 71 (.nchk (.t 70)) 64 false [0,1,2,3,4,5,6,7,8,9,10,11,12,13,14,15,16,17,18,19,20,21,22,28],oe 72 (.fadr 0 (.t 71)) 64 false [0,1,2,3,4,5,6,7,8,9,10,11,12,13,14,15,16,17,18,19,20,21,22,28,29],oe 73 (.fadr 2 (.t 72)) 64 false [0,1,2,3,4,5,6,7,8,9,10,11,12,13,14,15,16,17,18,19,20,21,22,28,29,30],oe 74 (.load true 12 (.t 73)) 64 false [0,1,2,3,4,5,6,7,8,9,10,11,12,13,14,15,16,17,18,19,20,21,22,28,29,30,31],oe 75 (.scall (.c (.iv (.fn 195 []))) [.t 65,.t 67,.t 69,.t 74]) 64 false [0,1,2,3,4,5,6,7,8,9,10,11,12,13,14,15,16,17,18,19,20,21,22,23,24,25,26,27,28,29,30,31,32],oe 76 (.un .not (.t 75)) 64 false [0,1,2,3,4,5,6,7,8,9,10,11,12,13,14,15,16,17,18,19,20,21,22,23,24,25,26,27,28,29,30,31,32,33],od 77 (.pick (.t 64) (cb true) (.t 76)) [0,1,2,3,4,5,6,7,8,9,10,11,12,13,14,15,16,17,18,19,20,21,22,23,24,25,26,27,28,29,30,31,32,33,34]] [1,6,7,8,9,10,12,17,18,19,77]) (.cond (.t 77) (.rgn false [om 78 6,om 79 9,oo 80 (.bsl 1 [.iv (.int .i64 0)] 1 [(0,.t 79)]),oo 81 (.app 1 false (.t 78) (.t 80)),om 6 81] [1,6,7,8,10,12,17,18,19]) .skip)) (.rgn true [om 82 8,oo 83 (.load true 2 (.t 12)),om 84 8,oo 85 (.load true 2 (.t 12)),od 86 (.mget false false [0,0] [.iv (.int .i64 0)] (.t 84) (.t 85)) [2,3],oa 87 1 10,od 88 (.load false 1 (.t 87)) [5],od 89 (.mx (.t 86) [.t 88]) [2,3,4,5,6],⟨none,.mput [0,0] (.t 82) (.t 83) (.t 89),none,[0,1,2,3,4,5,6,7]⟩] [1,6,7,8,17,18,19]))))))) (.rgn false [oo 90 (.bin .add 0 (.t 19) (ci 1)),om 19 90] [1,6,7,8,17,18,19]))))))) (.seq (.rgn false [om 91 6,om 6 91] [6]) .ret)))),none⟩
def F172:IFn:=⟨3,[.t 6],sr [oo 3 (.box 0 (.t 0)),oo 6 (.mov (.c (.iv (.nsl 1))))] [1,2,3,6] (sr [oo 16 (.load true 4 (.t 3)),om 17 1,oo 18 (.scall (.c (.iv (.fn 177 []))) [.t 16,.t 17]),om 7 18] [1,2,3,6,7] (sr [oo 19 (.load true 4 (.t 3)),om 20 1,om 21 2,oo 22 (.scall (.c (.iv (.fn 155 []))) [.t 19,.t 20,.t 21]),om 8 22] [2,3,6,7,8] (.seq (sr [om 23 2,oo 24 (.len false (.t 23)),oo 25 (.mov (ci 0))] [3,6,7,8,23,24,25] (.block 0 (.loop [3,6,7,8,23,24,25] (sr [ob 26 .lss 25 24] [3,6,7,8,23,24,25,26] (.seq (.cond (.t 26) .skip (.exit 0)) (.seq (.block 1 (sr [om 27 25,oo 28 (.isl 4 (.t 23) (.t 25)),oo 29 (.load true 4 (.t 28)),oo 10 (.alloc 0 [.iv (.int .i64 0),.iv (.int .i64 0),.iv (.int .i64 0),.iv (.int .i64 0)]),om 9 27,on (.store 4 (.t 10) (.t 29))] [3,6,7,8,9,10,23,24,25] (sr [oo 11 (.mov (.c (.iv (.int .u64 (18446744073709551615)))))] [3,6,7,8,9,10,11,23,24,25] (.seq (sr [om 30 8,om 31 9,oo 32 (.call 0 (.c (.iv (.fn 145 []))) [.t 30,.t 31]),oo 33 (.un .not (.t 32))] [3,6,7,8,10,11,23,24,25,33] (.cond (.t 33) (sr [om 34 7,oa 35 2 10,ol 36 35,oo 37 (.scall (.c (.iv (.fn 176 []))) [.t 34,.t 36]),om 12 37] [3,6,7,8,10,11,12,23,24,25] (sr [oo 38 (.load true 4 (.t 3)),oa 39 0 10,ol 40 39,oa 41 1 10,ol 42 41,oo 43 (.scall (.c (.iv (.fn 175 []))) [.t 38,.t 40,.t 42]),om 13 43] [3,6,7,8,11,12,13,23,24,25] (sr [om 44 7,oc 45 44,oa 46 4 45,ol 47 46,oo 48 (.len false (.t 47)),oo 49 (.mov (ci 0))] [3,6,7,8,11,12,13,23,24,25,48,49] (.block 2 (.loop [3,6,7,8,11,12,13,23,24,25,48,49] (sr [ob 50 .lss 49 48] [3,6,7,8,11,12,13,23,24,25,48,49,50] (.seq (.cond (.t 50) .skip (.exit 2)) (.seq (.block 3 (sr [om 51 49,om 14 51] [3,6,7,8,11,12,13,14,23,24,25,48,49] (sr [om 52 7,oc 53 52,oa 54 4 53,ol 55 54,om 56 14,oo 57 (.isl 5 (.t 55) (.t 56)),om 15 57] [3,6,7,8,11,12,13,15,23,24,25,48,49] (.seq (.rgn true [om 58 15,om 59 12,od 60 (.nchk (.t 59)) [1],od 61 (.fadr 14 (.t 60)) [1,2],od 62 (.load false 1 (.t 61)) [1,2,3],od 63 (.scall (.c (.iv (.fn 174 []))) [.t 58,.t 62]) (ra 5),od 64 (.mov (.t 63)) (ra 6),oe 65 (.mov (.t 13)) 64 true (ra 7),oe 66 (.fadr 1 (.t 3)) 64 true (ra 7),oe 67 (.load false 1 (.t 66)) 64 true [0,1,2,3,4,5,6,8],oe 68 (.mov (.t 15)) 64 true (ra 7),oe 69 (.nchk (.t 68)) 64 true [0,1,2,3,4,5,6,10],oe 70 (.fadr 0 (.t 69)) 64 true [0,1,2,3,4,5,6,10,11],oe 71 (.load false 1 (.t 70)) 64 true [0,1,2,3,4,5,6,10,11,12],oe 72 (.isl 1 (.t 67) (.t 71)) 64 true [0,1,2,3,4,5,6,8,9,10,11,12,13],oe 73 (.load false 1 (.t 72)) 64 true [0,1,2,3,4,5,6,8,9,10,11,12,13,14],oe 74 (.call 0 (.c (.iv (.fn 145 []))) [.t 65,.t 73]) 64 true (ra 16),od 75 (.pick (.t 64) (.t 74) (cb false)) (ra 17)] [3,6,7,8,11,12,13,15,23,24,25,48,49,75]) (.cond (.t 75) (.rgn true [om 76 11,om 77 15,od 78 (.nchk (.t 77)) [1],od 79 (.fadr 2 (.t 78)) [1,2],od 80 (.load false 1 (.t 79)) [1,2,3],om 81 12,od 82 (.nchk (.t 81)) [5],od 83 (.fadr 0 (.t 82)) [5,6],od 84 (.fadr 2 (.t 83)) [5,6,7],od 85 (.load true 12 (.t 84)) [5,6,7,8],od 86 (.call 0 (.c (.iv (.fn 123 []))) [.t 80,.t 85]) [1,2,3,4,5,6,7,8,9],od 87 (.mn (.t 76) [.t 86]) (ra 11),od 11 (.mov (.t 87)) (ra 12)] [3,6,7,8,11,12,13,23,24,25,48,49]) .skip))))) (rg [oo 88 (.bin .add 0 (.t 49) (ci 1)),om 49 88] [3,6,7,8,11,12,13,23,24,25,48,49]))))))))) .skip)) (rg [om 89 6,om 90 11,oo 91 (.bsl 1 [.iv (.int .u64 0)] 1 [(0,.t 90)]),oo 92 (.app 1 false (.t 89) (.t 91)),om 6 92] [3,6,7,8,23,24,25]))))) (rg [oo 93 (.bin .add 0 (.t 25) (ci 1)),om 25 93] [3,6,7,8,23,24,25]))))))) (sr [om 94 6,om 6 94] [6] .ret)))),none⟩
def F177:IFn:=⟨2,[.t 4],sr [oo 2 (.box 0 (.t 0)),oo 4 (.mov (.c (.iv (.nilp))))] [1,2] (.scope (sr [oo 11 (.load true 4 (.t 2)),oo 12 (.build [.iv (.nsl 1),.iv (.nsl 1),.iv (.int .i64 0),.iv (.int .u64 0),.iv (.nsl 5),.iv (.nsl 15),.iv (.nsl 1)] [(0,4,.t 11)]),oo 13 (.box 0 (.t 12)),om 5 13] [1,2,5] (.seq (sr [oo 14 (.load true 4 (.t 2)),oo 15 (.call 0 (.c (.iv (.fn 131 []))) [.t 14]),oo 16 (.bin .neq 0 (.t 15) (ci 0))] [1,2,5,16] (.cond (.t 16) (sr [om 17 5,om 4 17] [4] .ret) .skip)) (.seq .skip (.seq (sr [om 18 1,oo 19 (.len false (.t 18)),oo 20 (.mov (ci 0))] [1,2,5,19,20] (.block 0 (.loop [1,2,5,19,20] (sr [ob 21 .lss 20 19] [1,2,5,19,20,21] (.seq (.cond (.t 21) .skip (.exit 0)) (.seq (.block 1 (sr [om 22 20,om 6 22] [1,2,5,6,19,20] (sr [om 23 1,om 24 6,oo 25 (.isl 24 (.t 23) (.t 24)),om 26 6,oo 27 (.bin .add 0 (.t 26) (ci 1)),om 7 25,om 8 27] [1,2,5,7,8,19,20] (.seq (sr [om 28 7,oc 29 28,oa 30 0 29,ol 31 30,oo 32 (.bin .eql 0 (.t 31) (ci 5))] [1,2,5,7,8,19,20,32] (.cond (.t 32) (rg [om 33 5,om 34 5,oc 35 34,oa 36 6 35,ol 37 36,om 38 8,oo 39 (.bsl 1 [.iv (.int .i64 0)] 1 [(0,.t 38)]),oo 40 (.app 1 false (.t 37) (.t 39)),oc 41 33,oa 42 6 41,on (.store 1 (.t 42) (.t 40))] [1,2,5,7,8,19,20]) .skip)) (.seq (.seq (.rgn true [om 43 7,od 44 (.nchk (.t 43)) [0],od 45 (.fadr 1 (.t 44)) [0,1],od 46 (.load false 1 (.t 45)) [0,1,2],od 47 (.bin .lss 0 (.t 46) (ci 0)) (ra 4),od 48 (.mov (.t 47)) (ra 5),oe 49 (.mov (.t 7)) 48 false (ra 6),oe 50 (.nchk (.t 49)) 48 false (ra 7),oe 51 (.fadr 1 (.t 50)) 48 false (ra 8),oe 52 (.load false 1 (.t 51)) 48 false (ra 9),oe 53 (.fadr 1 (.t 2)) 48 false (ra 6),oe 54 (.load false 1 (.t 53)) 48 false [0,1,2,3,4,5,10],oe 55 (.len false (.t 54)) 48 false [0,1,2,3,4,5,10,11],oe 56 (.bin .geq 0 (.t 52) (.t 55)) 48 false (ra 13),od 57 (.pick (.t 48) (cb true) (.t 56)) (ra 14)] [1,2,5,7,8,19,20,57]) (.cond (.t 57) (.exit 1) .skip)) (sr [om 58 7,oc 59 58,oa 60 0 59,ol 61 60] [1,2,5,7,8,19,20,61] (.block 2 (sr [oo 63 (.bin .eql 0 (.t 61) (ci 1)),om 62 63] [1,2,5,7,8,19,20,61,62] (.cond (.t 62) (rg [om 64 5,om 65 7,om 66 8,oo 67 (.scall (.c (.iv (.fn 183 []))) [.t 64,.t 65,.t 66])] [1,2,5,19,20]) (sr [oo 69 (.bin .eql 0 (.t 61) (ci 2)),om 68 69] [1,2,5,7,8,19,20,61,68] (.cond (.t 68) (sr [om 70 5,oc 71 70,oa 72 4 71,ol 73 72,oo 74 (.len false (.t 73)),oo 75 (.mov (ci 0))] [1,2,5,7,8,19,20,74,75] (.block 3 (.loop [1,2,5,7,8,19,20,74,75] (sr [ob 76 .lss 75 74] [1,2,5,7,8,19,20,74,75,76] (.seq (.cond (.t 76) .skip (.exit 3)) (.seq (.block 4 (sr [om 77 75,om 9 77] [1,2,5,7,8,9,19,20,74,75] (sr [om 78 5,oc 79 78,oa 80 4 79,ol 81 80,om 82 9,oo 83 (.isl 5 (.t 81) (.t 82)),om 10 83] [1,2,5,7,8,10,19,20,74,75] (.seq (.rgn true [om 84 10,od 85 (.nchk (.t 84)) [0],od 86 (.fadr 0 (.t 85)) [0,1],od 87 (.load false 1 (.t 86)) [0,1,2],om 88 7,od 89 (.nchk (.t 88)) [4],od 90 (.fadr 1 (.t 89)) [4,5],od 91 (.load false 1 (.t 90)) [4,5,6],od 92 (.bin .eql 0 (.t 87) (.t 91)) (ra 8),od 93 (.mov (.t 92)) (ra 9),oe 94 (.mov (.t 10)) 93 true (ra 10),oe 95 (.nchk (.t 94)) 93 true (ra 11),oe 96 (.fadr 1 (.t 95)) 93 true (ra 12),oe 97 (.load false 1 (.t 96)) 93 true (ra 13),oe 98 (.mov (.t 7)) 93 true (ra 10),oe 99 (.nchk (.t 98)) 93 true [0,1,2,3,4,5,6,7,8,9,14],oe 100 (.fadr 2 (.t 99)) 93 true [0,1,2,3,4,5,6,7,8,9,14,15],oe 101 (.load false 1 (.t 100)) 93 true [0,1,2,3,4,5,6,7,8,9,14,15,16],oe 102 (.bin .eql 0 (.t 97) (.t 101)) 93 true (ra 18),od 103 (.pick (.t 93) (.t 102) (cb false)) (ra 19),od 104 (.mov (.t 103)) (ra 20),oe 105 (.mov (.t 10)) 104 true (ra 21),oe 106 (.nchk (.t 105)) 104 true (ra 22),oe 107 (.fadr 4 (.t 106)) 104 true (ra 23),oe 108 (.load false 1 (.t 107)) 104 true (ra 24),oe 109 (.bin .eql 0 (.t 108) (ci 0)) 104 true (ra 25),od 110 (.pick (.t 104) (.t 109) (cb false)) (ra 26)] [1,2,5,7,8,10,19,20,74,75,110]) (.cond (.t 110) (sr [om 111 10,om 112 8,oc 113 111,oa 114 4 113,on (.store 1 (.t 114) (.t 112))] [1,2,5,19,20] (.exit 1)) .skip))))) (rg [oo 115 (.bin .add 0 (.t 75) (ci 1)),om 75 115] [1,2,5,7,8,19,20,74,75]))))))) (sr [oo 117 (.bin .eql 0 (.t 61) (ci 3)),om 116 117] [1,2,5,7,8,19,20,116] (.cond (.t 116) (sr [om 118 7,oc 119 118,oa 120 12 119,oo 121 (.load true 12 (.t 120)),oo 122 (.call 0 (.c (.iv (.fn 137 []))) [.t 121])] [1,2,5,7,8,19,20,122] (.cond (.t 122) (.rgn true [om 123 5,om 124 5,od 125 (.nchk (.t 124)) [1],od 126 (.fadr 5 (.t 125)) [1,2],od 127 (.load false 1 (.t 126)) [1,2,3],om 128 5,od 129 (.nchk (.t 128)) [5],od 130 (.fadr 5 (.t 129)) [5,6],od 131 (.load false 1 (.t 130)) [5,6,7],od 132 (.len false (.t 131)) [5,6,7,8],od 133 (.bin .add 0 (.t 132) (ci 1)) [5,6,7,8,9],om 134 7,od 135 (.nchk (.t 134)) [11],od 136 (.fadr 1 (.t 135)) [11,12],od 137 (.load false 1 (.t 136)) [11,12,13],om 138 7,od 139 (.nchk (.t 138)) [15],od 140 (.fadr 12 (.t 139)) [15,16],od 141 (.load true 12 (.t 140)) [15,16,17],⟨some 142,.build [.iv (.int .i64 0),.iv (.int .i64 0),.iv (.int .i64 0),.iv (.int .i64 0),.iv (.str ⟨#[]⟩),.iv (.int .i64 0),.iv (.int .i64 0),.iv (.str ⟨#[]⟩),.iv (.int .i64 0),.iv (.int .i64 0),.iv (.str ⟨#[]⟩),.iv (.int .i64 0),.iv (.int .i64 0),.iv (.str ⟨#[]⟩)] [(0,1,.t 133),(1,1,.t 137),(2,12,.t 141)],none,[5,6,7,8,9,10,11,12,13,14,15,16,17,18]⟩,om 143 8,⟨some 144,.build [.iv (.int .i64 0),.iv (.int .i64 0),.iv (.int .i64 0),.iv (.int .i64 0),.iv (.str ⟨#[]⟩),.iv (.int .i64 0),.iv (.int .i64 0),.iv (.str ⟨#[]⟩),.iv (.int .i64 0),.iv (.int .i64 0),.iv (.str ⟨#[]⟩),.iv (.int .i64 0),.iv (.int .i64 0),.iv (.str ⟨#[]⟩),.iv (.int .i64 0)] [(0,14,.t 142),(14,1,.t 143)],none,[5,6,7,8,9,10,11,12,13,14,15,16,17,18,19,20]⟩,⟨some 145,.bsl 15 [.iv (.int .i64 0),.iv (.int .i64 0),.iv (.int .i64 0),.iv (.int .i64 0),.iv (.str ⟨#[]⟩),.iv (.int .i64 0),.iv (.int .i64 0),.iv (.str ⟨#[]⟩),.iv (.int .i64 0),.iv (.int .i64 0),.iv (.str ⟨#[]⟩),.iv (.int .i64 0),.iv (.int .i64 0),.iv (.str ⟨#[]⟩),.iv (.int .i64 0)] 1 [(0,.t 144)],none,[5,6,7,8,9,10,11,12,13,14,15,16,17,18,19,20,21]⟩,od 146 (.app 15 false (.t 127) (.t 145)) [1,2,3,4,5,6,7,8,9,10,11,12,13,14,15,16,17,18,19,20,21,22],od 147 (.nchk (.t 123)) (ra 24),od 148 (.fadr 5 (.t 147)) (ra 25),⟨none,.store 1 (.t 148) (.t 146),none,(ra 26)⟩] [1,2,5,19,20]) .skip)) .skip))))))))))))) (rg [oo 149 (.bin .add 0 (.t 20) (ci 1)),om 20 149] [1,2,5,19,20]))))))) (sr [om 150 5,om 4 150] [4] .ret)))))),none⟩
def F175:IFn:=⟨3,[.t 6],sr [oo 3 (.box 0 (.t 0)),oo 6 (.mov (.c (.iv (.nsl 1))))] [1,2,3,6] (.seq (sr [oo 8 (.load true 4 (.t 3)),om 9 1,oo 10 (.call 3 (.c (.iv (.fn 133 []))) [.t 8,.t 9]),om 11 2,oo 12 (.call 0 (.c (.iv (.fn 145 []))) [.t 10,.t 11]),oo 13 (.un .not (.t 12))] [1,2,3,6,13] (.cond (.t 13) (sr [oo 6 (.mov (.c (.iv (.nsl 1))))] [6] .ret) .skip)) (.seq (sr [oo 14 (.load true 4 (.t 3)),oo 15 (.call 0 (.c (.iv (.fn 134 []))) [.t 14]),oo 16 (.mov (ci 0))] [1,2,3,6,15,16] (.block 0 (.loop [1,2,3,6,15,16] (sr [ob 17 .lss 16 15] [1,2,3,6,15,16,17] (.seq (.cond (.t 17) .skip (.exit 0)) (.seq (.block 1 (sr [om 18 16,om 7 18] [1,2,3,6,7,15,16] (sr [oo 19 (.load true 4 (.t 3)),om 20 1,om 21 7,oo 22 (.scall (.c (.iv (.fn 178 []))) [.t 19,.t 20,.t 21]),om 23 2,ob 24 .eql 22 23] [1,2,3,6,7,15,16,24] (.cond (.t 24) (rg [om 25 6,om 26 7,oo 27 (.bsl 1 [.iv (.int .i64 0)] 1 [(0,.t 26)]),oo 28 (.app 1 false (.t 25) (.t 27)),om 6 28] [1,2,3,6,15,16]) .skip)))) (rg [oo 29 (.bin .add 0 (.t 16) (ci 1)),om 16 29] [1,2,3,6,15,16]))))))) (sr [om 30 6,om 6 30] [6] .ret))),none⟩
def F178:IFn:=⟨3,[.t 6],sr [oo 3 (.box 0 (.t 0)),oo 6 (.mov (ci 0))] [1,2,3] (.seq (sr [oo 8 (.load true 4 (.t 3)),om 9 1,om 10 2,oo 11 (.scall (.c (.iv (.fn 179 []))) [.t 8,.t 9,.t 10]),om 7 11] [7] (sr [om 12 7,oo 13 (.len false (.t 12)),oo 14 (.bin .gtr 0 (.t 13) (ci 1))] [7,14] (.cond (.t 14) (sr [om 15 7,oo 16 (.isl 1 (.t 15) (ci 1)),ol 17 16,om 6 17] [6] .ret) .skip))) (sr [oo 6 (.mov (ci (-1)))] [6] .ret)),none⟩
def F179:IFn:=⟨3,[.t 6],sr [oo 3 (.box 0 (.t 0)),oo 6 (.mov (.c (.iv (.nsl 1))))] [1,2,3] (.scope (.seq (sr [om 13 1,oo 14 (.call 0 (.c (.iv (.fn 135 []))) [.t 3,.t 13]),oo 15 (.un .not (.t 14)),om 16 15,og 17 (.mov (.t 2)) 16 false,og 18 (.call 0 (.c (.iv (.fn 135 []))) [.t 3,.t 17]) 16 false,og 19 (.un .not (.t 18)) 16 false,oo 20 (.pick (.t 16) (cb true) (.t 19))] [1,2,3,20] (.cond (.t 20) (sr [oo 6 (.mov (.c (.iv (.nsl 1))))] [6] .ret) .skip)) (sr [om 21 1,oo 22 (.scall (.c (.iv (.fn 136 []))) [.t 3,.t 21]),om 23 2,oo 24 (.scall (.c (.iv (.fn 136 []))) [.t 3,.t 23]),om 7 22,om 8 24] [7,8] (.seq .skip (.seq (sr [om 25 7,oo 26 (.len false (.t 25)),oo 27 (.mov (ci 0))] [7,8,25,26,27] (.block 0 (.loop [7,8,25,26,27] (sr [ob 28 .lss 27 26] [7,8,25,26,27,28] (.seq (.cond (.t 28) .skip (.exit 0)) (.seq (.block 1 (sr [om 29 27,oo 30 (.isl 1 (.t 25) (.t 27)),ol 31 30,om 9 29,om 10 31] [7,8,9,10,25,26,27] (sr [om 32 8,oo 33 (.len false (.t 32)),oo 34 (.mov (ci 0))] [7,8,9,10,25,26,27,32,33,34] (.block 2 (.loop [7,8,9,10,25,26,27,32,33,34] (sr [ob 35 .lss 34 33] [7,8,9,10,25,26,27,32,33,34,35] (.seq (.cond (.t 35) .skip (.exit 2)) (.seq (.block 3 (sr [om 36 34,oo 37 (.isl 1 (.t 32) (.t 34)),ol 38 37,om 11 36,om 12 38] [7,8,9,10,11,12,25,26,27,32,33,34] (sr [om 39 10,om 40 12,ob 41 .eql 39 40] [7,8,9,10,11,25,26,27,32,33,34,41] (.cond (.t 41) (.seq (.rgn true [om 42 7,om 43 9,od 44 (.bin .add 0 (.t 43) (ci 1)) [1],od 45 (.slc 1 (.t 42) none (some (.t 44))) [0,1,2],om 46 8,om 47 11,od 48 (.slc 1 (.t 46) none (some (.t 47))) [4,5],od 7 (.mov (.t 45)) [0,1,2,3],od 8 (.mov (.t 48)) [0,1,2,3,4,5,6,7]] [7,8]) (.exit 0)) .skip)))) (rg [oo 49 (.bin .add 0 (.t 34) (ci 1)),om 34 49] [7,8,9,10,25,26,27,32,33,34]))))))))) (rg [oo 50 (.bin .add 0 (.t 27) (ci 1)),om 27 50] [7,8,25,26,27]))))))) (sr [om 51 8,oo 52 (.scall (.c (.iv (.fn 180 []))) [.t 51])] [7,8] (sr [om 53 7,om 54 8,oo 55 (.app 1 false (.t 53) (.t 54)),om 6 55] [6] .ret))))))),none⟩
def F136:IFn:=⟨2,[.t 4],sr [oo 4 (.mov (.c (.iv (.nsl 1))))] [0,1] (.seq (sr [om 5 1,oo 6 (.bsl 1 [.iv (.int .i64 0)] 1 [(0,.t 5)]),om 4 6] [0,1,4] (.block 0 (.loop [0,1,4] (.seq (sr [om 7 1,oo 8 (.bin .gtr 0 (.t 7) (ci 0))] [0,1,4,8] (.cond (.t 8) .skip (.exit 0))) (.seq (.block 1 (rg [om 13 0,oc 14 13,oa 15 0 14,ol 16 15,om 17 1,oo 18 (.bin .sub 0 (.t 17) (ci 1)),oo 19 (.isl 1 (.t 16) (.t 18)),ol 20 19,om 1 20] [0,1,4])) (rg [om 9 4,om 10 1,oo 11 (.bsl 1 [.iv (.int .i64 0)] 1 [(0,.t 10)]),oo 12 (.app 1 false (.t 9) (.t 11)),om 4 12] [0,1,4])))))) (sr [om 21 4,om 4 21] [4] .ret)),none⟩
def F194:IFn:=⟨1,[],.skip,some (Prim.clone 7)⟩
def F187:IFn:=⟨1,[.t 2],sr [oo 2 (.mov (.c (.iv (.nsl 16))))] [0] (sr [oo 3 (.mov (ci 0))] [0,3] (.seq (sr [om 9 0,oo 10 (.len false (.t 9)),oo 11 (.mov (ci 0))] [0,3,9,10,11] (.block 0 (.loop [0,3,9,10,11] (sr [ob 12 .lss 11 10] [0,3,9,10,11,12] (.seq (.cond (.t 12) .skip (.exit 0)) (.seq (.block 1 (sr [oo 13 (.isl 1 (.t 9) (.t 11)),ol 14 13,om 5 14] [0,3,5,9,10,11] (sr [om 15 3,om 16 5,oo 17 (.len false (.t 16)),ob 18 .add 15 17,om 3 18] [0,3,9,10,11] (sr [om 19 3,oo 20 (.bin .lss 0 (.t 19) (ci 0))] [0,3,9,10,11,20] (.cond (.t 20) (rg [oo 21 (.dead),on (.dead)] [0,3,9,10,11]) .skip))))) (rg [oo 22 (.bin .add 0 (.t 11) (ci 1)),om 11 22] [0,3,9,10,11]))))))) (sr [om 23 3,oo 24 (.scall (.c (.iv (.fn 188 []))) [.c (.iv (.nsl 16)),.t 23]),om 6 24] [0,6] (.seq (sr [om 25 0,oo 26 (.len false (.t 25)),oo 27 (.mov (ci 0))] [6,25,26,27] (.block 2 (.loop [6,25,26,27] (sr [ob 28 .lss 27 26] [6,25,26,27,28] (.seq (.cond (.t 28) .skip (.exit 2)) (.seq (.block 3 (sr [oo 29 (.isl 1 (.t 25) (.t 27)),ol 30 29,om 8 30] [6,8,25,26,27] (rg [om 31 6,om 32 8,oo 33 (.app 16 false (.t 31) (.t 32)),om 6 33] [6,25,26,27]))) (rg [oo 34 (.bin .add 0 (.t 27) (ci 1)),om 27 34] [6,25,26,27]))))))) (sr [om 35 6,om 2 35] [2] .ret))))),none⟩
def F139:IFn:=⟨2,[.t 4],sr [oo 4 (.mov (cb false))] [0,1] (sr [om 5 0,om 6 1,oo 7 (.scall (.c (.iv (.fn 146 []))) [.t 5,.t 6]),oo 8 (.bin .geq 0 (.t 7) (ci 0)),om 4 8] [4] .ret),none⟩
def F142:IFn:=⟨2,[.t 4],sr [oo 4 (.mov (cb false))] [0,1] (sr [om 5 0,om 6 1,oo 7 (.scall (.c (.iv (.fn 149 []))) [.t 5,.t 6]),oo 8 (.bin .geq 0 (.t 7) (ci 0)),om 4 8] [4] .ret),none⟩
def F143:IFn:=⟨2,[.t 4],sr [oo 4 (.mov (cb false))] [0,1] (sr [om 5 0,om 6 1,oo 7 (.scall (.c (.iv (.fn 150 []))) [.t 5,.t 6]),oo 8 (.bin .geq 0 (.t 7) (ci 0)),om 4 8] [4] .ret),none⟩
def F188:IFn:=⟨2,[.t 4],sr [oo 4 (.mov (.c (.iv (.nsl 16))))] [0,1] (.seq (sr [om 5 1,oo 6 (.bin .lss 0 (.t 5) (ci 0))] [0,1,6] (.cond (.t 6) (rg [oo 7 (.dead),on (.dead)] [0,1]) .skip)) (.seq (sr [om 8 1,om 9 0,oo 10 (.capn (.t 9)),om 11 0,oo 12 (.len false (.t 11)),ob 13 .sub 10 12,ob 14 .sub 8 13,om 1 14] [0,1] (sr [om 15 1,oo 16 (.bin .gtr 0 (.t 15) (ci 0))] [0,1,16] (.cond (.t 16) (rg [om 17 0,om 18 0,oo 19 (.capn (.t 18)),oo 20 (.slc 16 (.t 17) none (some (.t 19))),om 21 1,oo 22 (.appn 16 [.iv (.bool false),.iv (.nsl 2),.iv (.bool false),.iv (.nsl 1),.iv (.bool false),.iv (.nsl 2),.iv (.bool false),.iv (.nsl 1),.iv (.bool false),.iv (.nsl 2),.iv (.bool false),.iv (.nsl 1),.iv (.bool false),.iv (.nsl 2),.iv (.bool false),.iv (.nsl 1)] (.t 20) (.t 21)),om 23 0,oo 24 (.len false (.t 23)),oo 25 (.slc 16 (.t 22) none (some (.t 24))),om 0 25] [0]) .skip))) (sr [om 26 0,om 4 26] [4] .ret))),none⟩
def F146:IFn:=⟨2,[.t 4],sr [oo 4 (.mov (ci 0))] [0,1] (.seq (sr [om 6 0,oo 7 (.len false (.t 6)),oo 8 (.mov (ci 0))] [0,1,7,8] (.block 0 (.loop [0,1,7,8] (sr [ob 9 .lss 8 7] [0,1,7,8,9] (.seq (.cond (.t 9) .skip (.exit 0)) (.seq (.block 1 (sr [om 10 8,om 5 10] [0,1,5,7,8] (sr [om 11 1,om 12 0,om 13 5,oo 14 (.isl 3 (.t 12) (.t 13)),oo 15 (.load true 3 (.t 14)),oo 16 (.scall (.t 11) [.t 15])] [0,1,5,7,8,16] (.cond (.t 16) (sr [om 17 5,om 4 17] [4] .ret) .skip)))) (rg [oo 18 (.bin .add 0 (.t 8) (ci 1)),om 8 18] [0,1,7,8]))))))) (sr [oo 4 (.mov (ci (-1)))] [4] .ret)),none⟩
def F149:IFn:=⟨2,[.t 4],sr [oo 4 (.mov (ci 0))] [0,1] (.seq (sr [om 6 0,oo 7 (.len false (.t 6)),oo 8 (.mov (ci 0))] [0,1,7,8] (.block 0 (.loop [0,1,7,8] (sr [ob 9 .lss 8 7] [0,1,7,8,9] (.seq (.cond (.t 9) .skip (.exit 0)) (.seq (.block 1 (sr [om 10 8,om 5 10] [0,1,5,7,8] (sr [om 11 1,om 12 0,om 13 5,oo 14 (.isl 5 (.t 12) (.t 13)),oo 15 (.load true 5 (.t 14)),oo 16 (.scall (.t 11) [.t 15])] [0,1,5,7,8,16] (.cond (.t 16) (sr [om 17 5,om 4 17] [4] .ret) .skip)))) (rg [oo 18 (.bin .add 0 (.t 8) (ci 1)),om 8 18] [0,1,7,8]))))))) (sr [oo 4 (.mov (ci (-1)))] [4] .ret)),none⟩
def F150:IFn:=⟨2,[.t 4],sr [oo 4 (.mov (ci 0))] [0,1] (.seq (sr [om 6 0,oo 7 (.len false (.t 6)),oo 8 (.mov (ci 0))] [0,1,7,8] (.block 0 (.loop [0,1,7,8] (sr [ob 9 .lss 8 7] [0,1,7,8,9] (.seq (.cond (.t 9) .skip (.exit 0)) (.seq (.block 1 (sr [om 10 8,om 5 10] [0,1,5,7,8] (sr [om 11 1,om 12 0,om 13 5,oo 14 (.isl 1 (.t 12) (.t 13)),ol 15 14,oo 16 (.scall (.t 11) [.t 15])] [0,1,5,7,8,16] (.cond (.t 16) (sr [om 17 5,om 4 17] [4] .ret) .skip)))) (rg [oo 18 (.bin .add 0 (.t 8) (ci 1)),om 8 18] [0,1,7,8]))))))) (sr [oo 4 (.mov (ci (-1)))] [4] .ret)),none⟩
def F180:IFn:=⟨1,[],sr [om 4 0,oo 5 (.len false (.t 4)),oo 6 (.bin .sub 0 (.t 5) (ci 1)),oo 2 (.mov (ci 0)),om 3 6] [0,2,3] (.block 0 (.loop [0,2,3] (.seq (sr [om 7 2,om 8 3,ob 9 .lss 7 8] [0,2,3,9] (.cond (.t 9) .skip (.exit 0))) (.seq (.block 1 (.rgn true [om 14 0,om 15 2,om 16 0,om 17 3,om 18 0,om 19 3,od 20 (.isl 1 (.t 18) (.t 19)) [4,5],od 21 (.load false 1 (.t 20)) [4,5,6],om 22 0,om 23 2,od 24 (.isl 1 (.t 22) (.t 23)) [8,9],od 25 (.load false 1 (.t 24)) [8,9,10],od 26 (.isl 1 (.t 14) (.t 15)) [0,1,4,5,6,7,8,9,10,11],⟨none,.store 1 (.t 26) (.t 21),none,[0,1,4,5,6,7,8,9,10,11,12]⟩,od 27 (.isl 1 (.t 16) (.t 17)) [0,1,2,3,4,5,6,7,8,9,10,11,12,13],⟨none,.store 1 (.t 27) (.t 25),none,[0,1,2,3,4,5,6,7,8,9,10,11,12,13,14]⟩] [0,2,3])) (rg [om 10 2,oo 11 (.bin .add 0 (.t 10) (ci 1)),om 12 3,oo 13 (.bin .sub 0 (.t 12) (ci 1)),om 2 11,om 3 13] [0,2,3]))))),none⟩
end Arx
namespace Arx
open Go Go.Proofs
namespace Tied
def nus:List Nat:=[0,0,0,0,0,0,0,0,39,0,0,0,0,0,0,0,0,194,0,162,74,0,0,219,169,0,134,104,0,0,107,0,213,214,38,102,117,164,197,237,238,154,136,73,0,139,140,133,129,130,198,199,200,151,143,245,246,165,168,160,161,216,217,218,190,249,195,196,227,235,236,250,256,215,234,233,232,231,230,229,228,258,257,255,254,253,252,251,262,0,0,0,0,0,0,0,0,0,101,125,127,128,0,155,156,152,153,0,191,192,212,226,0,239,247,166,97,221,225,63,96,137,93,57,118,148,201,120,150,135,163,58,103,90,91,115,146,60,94,31,170,149,67,64,95,54,66,108,189,98,61,119,89,9,12,15,18,17,7,8,16,37,72,71,70,100,99,121,122,77,78,11,27,26,56,55,32,28,92,116,147,36,69,59,80,106,105,138,167,132,131,158,159,53,88,33,68,30,29,65,62,20,42,41,79,14,13,10,35,34,22,23,24,25,21,19,48,52,87,51,40,76,75,49,50,86,43,44,45,46,47,82,110,109,81,85,84,83,113,145,187,188,172,183,185,184,186,182,181,208,203,202,210,211,209,224,223,112,111,141,171,144,142,177,174,178,179,175,173,176,205,206,204,207,222,6,4,5,3,126,123,157,193,124,0,0,0,0,0,0,0,0,0,0,0,0,0,0,0,0,0,0,0,0,0,0,0,0,0,0,0,0,0,0,0,0,0,0,0,0,0,0,0,0,0,0,0,0,0,0,0,242,241,0,0,0,0,0,0,0,0,0,0,0,0,0,0,0,0,0,0,0,0,0,0,0,0,0,0,0,0,0,0,0,0,0,0,0,0,0,0,0,0,0,0,0,0,0,0,0,0,0,0,0,0,0,0,0,0,0,0,0,0,0,0,0,0,0,0,0,0,0,0,279,0,0,0,0,0,0,0,0,0,0,0,0,0,0,0,0,0,0,0,0,0,0,0,0,0]
def nu (n:Nat):Nat:=if n=tyBld then 262 else if n=tyByte then 5 else nus.getD n 0
def fns1:List (Nat×Arb.IFn):=[(17,Arb.F17),(19,Arb.F19),(23,Arb.F23),(24,Arb.F24),(26,Arb.F26),(27,Arb.F27),(30,Arb.F30),(32,Arb.F32),(33,Arb.F33),(36,Arb.F36),(37,Arb.F37),(38,Arb.F38),(39,Arb.F39),(40,Arb.F40),(42,Arb.F42),(45,Arb.F45),(46,Arb.F46),(47,Arb.F47),(50,Arb.G50),(51,Arb.F51),(52,Arb.F52),(53,Arb.F53),(54,Arb.F54),(55,Arb.G55),(56,Arb.F56),(57,Arb.F57),(58,Arb.F58),(59,Arb.F59),(60,Arb.F60),(61,Arb.F61),(62,Arb.F62),(63,Arb.F63),(64,Arb.F64),(65,Arb.F65),(66,Arb.F66),(67,Arb.F67),(68,Arb.F68),(69,Arb.F69),(70,Arb.F70),(71,Arb.F71),(72,Arb.F72),(73,Arb.F73),(88,Arb.F88),(115,Arb.F115),(116,Arb.F116),(119,Arb.F119),(120,Arb.F120),(121,Arb.F121),(122,Arb.F122),(123,Arb.F123),(124,Arb.F124),(125,Arb.F125),(126,Arb.F126),(127,Arb.F127),(128,Arb.F128),(129,Arb.F129),(130,Arb.F130),(131,Arb.F131),(133,Arb.F133),(134,Arb.F134),(135,Arb.F135),(137,Arb.F137),(138,Arb.F138),(141,Arb.F141),(144,Arb.F144),(145,Arb.F145),(148,Arb.F148),(151,Arb.F151),(152,Arb.F152),(169,Arb.F169),(170,Arb.F170),(171,Arb.F171),(201,Arb.F201),(202,Arb.F202),(203,Arb.F203),(204,Arb.F204)]
def fns2:List (Nat×IFn):=[(136,F136),(139,F139),(142,F142),(143,F143),(146,F146),(149,F149),(150,F150),(153,F153),(154,F154),(155,F155),(158,F158),(159,F159),(172,F172),(173,F173),(174,F174),(175,F175),(176,F176),(177,F177),(178,F178),(179,F179),(180,F180),(181,F181),(182,F182),(183,F183),(184,F184),(185,F185),(186,F186),(187,F187),(188,F188),(189,F189),(190,F190),(191,F191),(192,F192),(193,F193),(194,F194),(195,F195),(196,F196),(197,F197),(198,F198),(199,F199),(200,F200),(205,F205),(276,F276)]
theorem mixed:Tryz.prog.follows .mixedOrders=true:=Tryz.checked.mixed
theorem a17:Arb.oneB Tryz.prog nu Tryz.f194 Arb.F17=true:=by kernel_rfl
theorem a19:Arb.oneB Tryz.prog nu Tryz.f162 Arb.F19=true:=by kernel_rfl
theorem a23:Arb.oneB Tryz.prog nu Tryz.f219 Arb.F23=true:=by kernel_rfl
theorem a24:Arb.oneB Tryz.prog nu Tryz.f169 Arb.F24=true:=by kernel_rfl
theorem a26:Arb.oneB Tryz.prog nu Tryz.f134 Arb.F26=true:=by kernel_rfl
theorem a27:Arb.oneB Tryz.prog nu Tryz.f104 Arb.F27=true:=by kernel_rfl
theorem a30:Arb.oneB Tryz.prog nu Tryz.f107 Arb.F30=true:=by kernel_rfl
theorem a32:Arb.oneB Tryz.prog nu Tryz.f213 Arb.F32=true:=by kernel_rfl
theorem a33:Arb.oneB Tryz.prog nu Tryz.f214 Arb.F33=true:=by kernel_rfl
theorem a36:Arb.oneB Tryz.prog nu Tryz.f117 Arb.F36=true:=by kernel_rfl
theorem a37:Arb.oneB Tryz.prog nu Tryz.f164 Arb.F37=true:=by kernel_rfl
theorem a38:Arb.oneB Tryz.prog nu Tryz.f197 Arb.F38=true:=by kernel_rfl
theorem a39:Arb.oneB Tryz.prog nu Tryz.f237 Arb.F39=true:=by kernel_rfl
theorem a40:Arb.oneB Tryz.prog nu Tryz.f238 Arb.F40=true:=by kernel_rfl
theorem a42:Arb.oneB Tryz.prog nu Tryz.f136 Arb.F42=true:=by kernel_rfl
theorem a45:Arb.oneB Tryz.prog nu Tryz.f139 Arb.F45=true:=by kernel_rfl
theorem a46:Arb.oneB Tryz.prog nu Tryz.f140 Arb.F46=true:=by kernel_rfl
theorem a47:Arb.oneB Tryz.prog nu Tryz.f133 Arb.F47=true:=by kernel_rfl
theorem a50:Arb.twoB Tryz.prog nu Tryz.f198 Arb.G50=true:=by kernel_rfl
theorem a51:Arb.oneB Tryz.prog nu Tryz.f199 Arb.F51=true:=by kernel_rfl
theorem a52:Arb.oneB Tryz.prog nu Tryz.f200 Arb.F52=true:=by kernel_rfl
theorem a53:Arb.oneB Tryz.prog nu Tryz.f151 Arb.F53=true:=by kernel_rfl
theorem a54:Arb.oneB Tryz.prog nu Tryz.f143 Arb.F54=true:=by kernel_rfl
theorem a55:Arb.twoB Tryz.prog nu Tryz.f245 Arb.G55=true:=by kernel_rfl
theorem a56:Arb.oneB Tryz.prog nu Tryz.f246 Arb.F56=true:=by kernel_rfl
theorem a57:Arb.oneB Tryz.prog nu Tryz.f165 Arb.F57=true:=by kernel_rfl
theorem a58:Arb.oneB Tryz.prog nu Tryz.f168 Arb.F58=true:=by kernel_rfl
theorem a59:Arb.oneB Tryz.prog nu Tryz.f160 Arb.F59=true:=by kernel_rfl
theorem a60:Arb.oneB Tryz.prog nu Tryz.f161 Arb.F60=true:=by kernel_rfl
theorem a61:Arb.oneB Tryz.prog nu Tryz.f216 Arb.F61=true:=by kernel_rfl
theorem a62:Arb.oneB Tryz.prog nu Tryz.f217 Arb.F62=true:=by kernel_rfl
theorem a63:Arb.oneB Tryz.prog nu Tryz.f218 Arb.F63=true:=by kernel_rfl
theorem a64:Arb.oneB Tryz.prog nu Tryz.f190 Arb.F64=true:=by kernel_rfl
theorem a65:Arb.oneB Tryz.prog nu Tryz.f249 Arb.F65=true:=by kernel_rfl
theorem a66:Arb.oneB Tryz.prog nu Tryz.f195 Arb.F66=true:=by kernel_rfl
theorem a67:Arb.oneB Tryz.prog nu Tryz.f196 Arb.F67=true:=by kernel_rfl
theorem a68:Arb.oneB Tryz.prog nu Tryz.f227 Arb.F68=true:=by kernel_rfl
theorem a69:Arb.oneB Tryz.prog nu Tryz.f235 Arb.F69=true:=by kernel_rfl
theorem a70:Arb.oneB Tryz.prog nu Tryz.f236 Arb.F70=true:=by kernel_rfl
theorem a71:Arb.oneB Tryz.prog nu Tryz.f250 Arb.F71=true:=by kernel_rfl
theorem a72:Arb.oneB Tryz.prog nu Tryz.f256 Arb.F72=true:=by kernel_rfl
theorem a73:Arb.oneB Tryz.prog nu Tryz.f215 Arb.F73=true:=by kernel_rfl
theorem a88:Arb.oneB Tryz.prog nu Tryz.f262 Arb.F88=true:=by kernel_rfl
theorem a115:Arb.oneB Tryz.prog nu Tryz.f166 Arb.F115=true:=by kernel_rfl
theorem a116:Arb.oneB Tryz.prog nu Tryz.f97 Arb.F116=true:=by kernel_rfl
theorem a119:Arb.oneB Tryz.prog nu Tryz.f63 Arb.F119=true:=by kernel_rfl
theorem a120:Arb.oneB Tryz.prog nu Tryz.f96 Arb.F120=true:=by kernel_rfl
theorem a121:Arb.oneB Tryz.prog nu Tryz.f137 Arb.F121=true:=by kernel_rfl
theorem a122:Arb.oneB Tryz.prog nu Tryz.f93 Arb.F122=true:=by kernel_rfl
theorem a123:Arb.oneB Tryz.prog nu Tryz.f57 Arb.F123=true:=by kernel_rfl
theorem a124:Arb.oneB Tryz.prog nu Tryz.f118 Arb.F124=true:=by kernel_rfl
theorem a125:Arb.oneB Tryz.prog nu Tryz.f148 Arb.F125=true:=by kernel_rfl
theorem a126:Arb.oneB Tryz.prog nu Tryz.f201 Arb.F126=true:=by kernel_rfl
theorem a127:Arb.oneB Tryz.prog nu Tryz.f120 Arb.F127=true:=by kernel_rfl
theorem a128:Arb.oneB Tryz.prog nu Tryz.f150 Arb.F128=true:=by kernel_rfl
theorem a129:Arb.oneB Tryz.prog nu Tryz.f135 Arb.F129=true:=by kernel_rfl
theorem a130:Arb.oneB Tryz.prog nu Tryz.f163 Arb.F130=true:=by kernel_rfl
theorem a131:Arb.oneB Tryz.prog nu Tryz.f58 Arb.F131=true:=by kernel_rfl
theorem a133:Arb.oneB Tryz.prog nu Tryz.f90 Arb.F133=true:=by kernel_rfl
theorem a134:Arb.oneB Tryz.prog nu Tryz.f91 Arb.F134=true:=by kernel_rfl
theorem a135:Arb.oneB Tryz.prog nu Tryz.f115 Arb.F135=true:=by kernel_rfl
theorem a137:Arb.oneB Tryz.prog nu Tryz.f60 Arb.F137=true:=by kernel_rfl
theorem a138:Arb.oneB Tryz.prog nu Tryz.f94 Arb.F138=true:=by kernel_rfl
theorem a141:Arb.oneB Tryz.prog nu Tryz.f149 Arb.F141=true:=by kernel_rfl
theorem a144:Arb.oneB Tryz.prog nu Tryz.f95 Arb.F144=true:=by kernel_rfl
theorem a145:Arb.oneB Tryz.prog nu Tryz.f54 Arb.F145=true:=by kernel_rfl
theorem a148:Arb.oneB Tryz.prog nu Tryz.f189 Arb.F148=true:=by kernel_rfl
theorem a151:Arb.oneB Tryz.prog nu Tryz.f119 Arb.F151=true:=by kernel_rfl
theorem a152:Arb.oneB Tryz.prog nu Tryz.f89 Arb.F152=true:=by kernel_rfl
theorem a169:Arb.oneB Tryz.prog nu Tryz.f77 Arb.F169=true:=by kernel_rfl
theorem a170:Arb.oneB Tryz.prog nu Tryz.f78 Arb.F170=true:=by kernel_rfl
theorem a171:Arb.oneB Tryz.prog nu Tryz.f11 Arb.F171=true:=by kernel_rfl
theorem a201:Arb.oneB Tryz.prog nu Tryz.f20 Arb.F201=true:=by kernel_rfl
theorem a202:Arb.oneB Tryz.prog nu Tryz.f42 Arb.F202=true:=by kernel_rfl
theorem a203:Arb.oneB Tryz.prog nu Tryz.f41 Arb.F203=true:=by kernel_rfl
theorem a204:Arb.oneB Tryz.prog nu Tryz.f79 Arb.F204=true:=by kernel_rfl
theorem b136:oneB Tryz.prog nu Tryz.f146 F136=true:=by kernel_rfl
theorem b139:oneB Tryz.prog nu Tryz.f31 F139=true:=by kernel_rfl
theorem b142:oneB Tryz.prog nu Tryz.f67 F142=true:=by kernel_rfl
theorem b143:oneB Tryz.prog nu Tryz.f64 F143=true:=by kernel_rfl
theorem b146:oneB Tryz.prog nu Tryz.f66 F146=true:=by kernel_rfl
theorem b149:oneB Tryz.prog nu Tryz.f98 F149=true:=by kernel_rfl
theorem b150:oneB Tryz.prog nu Tryz.f61 F150=true:=by kernel_rfl
theorem b153:oneB Tryz.prog nu Tryz.f9 F153=true:=by kernel_rfl
theorem b154:oneB Tryz.prog nu Tryz.f12 F154=true:=by kernel_rfl
theorem b155:oneB Tryz.prog nu Tryz.f15 F155=true:=by kernel_rfl
theorem b158:oneB Tryz.prog nu Tryz.f7 F158=true:=by kernel_rfl
theorem b159:oneB Tryz.prog nu Tryz.f8 F159=true:=by kernel_rfl
theorem b172:oneB Tryz.prog nu Tryz.f27 F172=true:=by kernel_rfl
theorem b173:oneB Tryz.prog nu Tryz.f26 F173=true:=by kernel_rfl
theorem b174:oneB Tryz.prog nu Tryz.f56 F174=true:=by kernel_rfl
theorem b175:oneB Tryz.prog nu Tryz.f55 F175=true:=by kernel_rfl
theorem b176:oneB Tryz.prog nu Tryz.f32 F176=true:=by kernel_rfl
theorem b177:oneB Tryz.prog nu Tryz.f28 F177=true:=by kernel_rfl
theorem b178:oneB Tryz.prog nu Tryz.f92 F178=true:=by kernel_rfl
theorem b179:oneB Tryz.prog nu Tryz.f116 F179=true:=by kernel_rfl
theorem b180:oneB Tryz.prog nu Tryz.f147 F180=true:=by kernel_rfl
theorem b181:oneB Tryz.prog nu Tryz.f36 F181=true:=by kernel_rfl
theorem b182:oneB Tryz.prog nu Tryz.f69 F182=true:=by kernel_rfl
theorem b183:oneB Tryz.prog nu Tryz.f59 F183=true:=by kernel_rfl
theorem b184:oneB Tryz.prog nu Tryz.f80 F184=true:=by kernel_rfl
theorem b185:oneB Tryz.prog nu Tryz.f106 F185=true:=by kernel_rfl
theorem b186:oneB Tryz.prog nu Tryz.f105 F186=true:=by kernel_rfl
theorem b187:oneB Tryz.prog nu Tryz.f138 F187=true:=by kernel_rfl
theorem b188:oneB Tryz.prog nu Tryz.f167 F188=true:=by kernel_rfl
theorem b189:oneB Tryz.prog nu Tryz.f132 F189=true:=by kernel_rfl
theorem b190:oneB Tryz.prog nu Tryz.f131 F190=true:=by kernel_rfl
theorem b191:oneB Tryz.prog nu Tryz.f158 F191=true:=by kernel_rfl
theorem b192:oneB Tryz.prog nu Tryz.f159 F192=true:=by kernel_rfl
theorem b193:oneB Tryz.prog nu Tryz.f53 F193=true:=by kernel_rfl
theorem b194:cloneB Tryz.prog nu Tryz.f88 7=true:=by kernel_rfl
theorem b195:oneB Tryz.prog nu Tryz.f33 F195=true:=by kernel_rfl
theorem b196:oneB Tryz.prog nu Tryz.f68 F196=true:=by kernel_rfl
theorem b197:oneB Tryz.prog nu Tryz.f30 F197=true:=by kernel_rfl
theorem b198:oneB Tryz.prog nu Tryz.f29 F198=true:=by kernel_rfl
theorem b199:oneB Tryz.prog nu Tryz.f65 F199=true:=by kernel_rfl
theorem b200:oneB Tryz.prog nu Tryz.f62 F200=true:=by kernel_rfl
theorem b205:oneB Tryz.prog nu Tryz.f14 F205=true:=by kernel_rfl
theorem b276:oneB Tryz.prog nu Tryz.f4 F276=true:=by kernel_rfl
theorem tie1:Arb.Tie Tryz.prog nu (Arb.get fns1):=
 Arb.tie_cons (Arb.tie_at Tryz.func194 (by kernel_rfl) a17) <|
 Arb.tie_cons (Arb.tie_at Tryz.func162 (by kernel_rfl) a19) <|
 Arb.tie_cons (Arb.tie_at Tryz.func219 (by kernel_rfl) a23) <|
 Arb.tie_cons (Arb.tie_at Tryz.func169 (by kernel_rfl) a24) <|
 Arb.tie_cons (Arb.tie_at Tryz.func134 (by kernel_rfl) a26) <|
 Arb.tie_cons (Arb.tie_at Tryz.func104 (by kernel_rfl) a27) <|
 Arb.tie_cons (Arb.tie_at Tryz.func107 (by kernel_rfl) a30) <|
 Arb.tie_cons (Arb.tie_at Tryz.func213 (by kernel_rfl) a32) <|
 Arb.tie_cons (Arb.tie_at Tryz.func214 (by kernel_rfl) a33) <|
 Arb.tie_cons (Arb.tie_at Tryz.func117 (by kernel_rfl) a36) <|
 Arb.tie_cons (Arb.tie_at Tryz.func164 (by kernel_rfl) a37) <|
 Arb.tie_cons (Arb.tie_at Tryz.func197 (by kernel_rfl) a38) <|
 Arb.tie_cons (Arb.tie_at Tryz.func237 (by kernel_rfl) a39) <|
 Arb.tie_cons (Arb.tie_at Tryz.func238 (by kernel_rfl) a40) <|
 Arb.tie_cons (Arb.tie_at Tryz.func136 (by kernel_rfl) a42) <|
 Arb.tie_cons (Arb.tie_at Tryz.func139 (by kernel_rfl) a45) <|
 Arb.tie_cons (Arb.tie_at Tryz.func140 (by kernel_rfl) a46) <|
 Arb.tie_cons (Arb.tie_at Tryz.func133 (by kernel_rfl) a47) <|
 Arb.tie_cons (Arb.tie_sort Tryz.func198 (by kernel_rfl) a50 (.inr (Arb.sortR_ok (f:=50) (c:=51) Tryz.sortsR))) <|
 Arb.tie_cons (Arb.tie_at Tryz.func199 (by kernel_rfl) a51) <|
 Arb.tie_cons (Arb.tie_at Tryz.func200 (by kernel_rfl) a52) <|
 Arb.tie_cons (Arb.tie_at Tryz.func151 (by kernel_rfl) a53) <|
 Arb.tie_cons (Arb.tie_at Tryz.func143 (by kernel_rfl) a54) <|
 Arb.tie_cons (Arb.tie_sort Tryz.func245 (by kernel_rfl) a55 (.inr (Arb.sortT_ok (f:=55) Tryz.sortsT))) <|
 Arb.tie_cons (Arb.tie_at Tryz.func246 (by kernel_rfl) a56) <|
 Arb.tie_cons (Arb.tie_at Tryz.func165 (by kernel_rfl) a57) <|
 Arb.tie_cons (Arb.tie_at Tryz.func168 (by kernel_rfl) a58) <|
 Arb.tie_cons (Arb.tie_at Tryz.func160 (by kernel_rfl) a59) <|
 Arb.tie_cons (Arb.tie_at Tryz.func161 (by kernel_rfl) a60) <|
 Arb.tie_cons (Arb.tie_at Tryz.func216 (by kernel_rfl) a61) <|
 Arb.tie_cons (Arb.tie_at Tryz.func217 (by kernel_rfl) a62) <|
 Arb.tie_cons (Arb.tie_at Tryz.func218 (by kernel_rfl) a63) <|
 Arb.tie_cons (Arb.tie_at Tryz.func190 (by kernel_rfl) a64) <|
 Arb.tie_cons (Arb.tie_at Tryz.func249 (by kernel_rfl) a65) <|
 Arb.tie_cons (Arb.tie_at Tryz.func195 (by kernel_rfl) a66) <|
 Arb.tie_cons (Arb.tie_at Tryz.func196 (by kernel_rfl) a67) <|
 Arb.tie_cons (Arb.tie_at Tryz.func227 (by kernel_rfl) a68) <|
 Arb.tie_cons (Arb.tie_at Tryz.func235 (by kernel_rfl) a69) <|
 Arb.tie_cons (Arb.tie_at Tryz.func236 (by kernel_rfl) a70) <|
 Arb.tie_cons (Arb.tie_at Tryz.func250 (by kernel_rfl) a71) <|
 Arb.tie_cons (Arb.tie_at Tryz.func256 (by kernel_rfl) a72) <|
 Arb.tie_cons (Arb.tie_at Tryz.func215 (by kernel_rfl) a73) <|
 Arb.tie_cons (Arb.tie_at Tryz.func262 (by kernel_rfl) a88) <|
 Arb.tie_cons (Arb.tie_at Tryz.func166 (by kernel_rfl) a115) <|
 Arb.tie_cons (Arb.tie_at Tryz.func97 (by kernel_rfl) a116) <|
 Arb.tie_cons (Arb.tie_at Tryz.func63 (by kernel_rfl) a119) <|
 Arb.tie_cons (Arb.tie_at Tryz.func96 (by kernel_rfl) a120) <|
 Arb.tie_cons (Arb.tie_at Tryz.func137 (by kernel_rfl) a121) <|
 Arb.tie_cons (Arb.tie_at Tryz.func93 (by kernel_rfl) a122) <|
 Arb.tie_cons (Arb.tie_at Tryz.func57 (by kernel_rfl) a123) <|
 Arb.tie_cons (Arb.tie_at Tryz.func118 (by kernel_rfl) a124) <|
 Arb.tie_cons (Arb.tie_at Tryz.func148 (by kernel_rfl) a125) <|
 Arb.tie_cons (Arb.tie_at Tryz.func201 (by kernel_rfl) a126) <|
 Arb.tie_cons (Arb.tie_at Tryz.func120 (by kernel_rfl) a127) <|
 Arb.tie_cons (Arb.tie_at Tryz.func150 (by kernel_rfl) a128) <|
 Arb.tie_cons (Arb.tie_at Tryz.func135 (by kernel_rfl) a129) <|
 Arb.tie_cons (Arb.tie_at Tryz.func163 (by kernel_rfl) a130) <|
 Arb.tie_cons (Arb.tie_at Tryz.func58 (by kernel_rfl) a131) <|
 Arb.tie_cons (Arb.tie_at Tryz.func90 (by kernel_rfl) a133) <|
 Arb.tie_cons (Arb.tie_at Tryz.func91 (by kernel_rfl) a134) <|
 Arb.tie_cons (Arb.tie_at Tryz.func115 (by kernel_rfl) a135) <|
 Arb.tie_cons (Arb.tie_at Tryz.func60 (by kernel_rfl) a137) <|
 Arb.tie_cons (Arb.tie_at Tryz.func94 (by kernel_rfl) a138) <|
 Arb.tie_cons (Arb.tie_at Tryz.func149 (by kernel_rfl) a141) <|
 Arb.tie_cons (Arb.tie_at Tryz.func95 (by kernel_rfl) a144) <|
 Arb.tie_cons (Arb.tie_at Tryz.func54 (by kernel_rfl) a145) <|
 Arb.tie_cons (Arb.tie_at Tryz.func189 (by kernel_rfl) a148) <|
 Arb.tie_cons (Arb.tie_at Tryz.func119 (by kernel_rfl) a151) <|
 Arb.tie_cons (Arb.tie_at Tryz.func89 (by kernel_rfl) a152) <|
 Arb.tie_cons (Arb.tie_at Tryz.func77 (by kernel_rfl) a169) <|
 Arb.tie_cons (Arb.tie_at Tryz.func78 (by kernel_rfl) a170) <|
 Arb.tie_cons (Arb.tie_at Tryz.func11 (by kernel_rfl) a171) <|
 Arb.tie_cons (Arb.tie_at Tryz.func20 (by kernel_rfl) a201) <|
 Arb.tie_cons (Arb.tie_at Tryz.func42 (by kernel_rfl) a202) <|
 Arb.tie_cons (Arb.tie_at Tryz.func41 (by kernel_rfl) a203) <|
 Arb.tie_cons (Arb.tie_at Tryz.func79 (by kernel_rfl) a204) <|
 Arb.tie_nil
theorem tie2:Tie Tryz.prog nu (Arx.get fns2):=
 tie_cons (tie_at Tryz.func146 (by kernel_rfl) b136) <|
 tie_cons (tie_at Tryz.func31 (by kernel_rfl) b139) <|
 tie_cons (tie_at Tryz.func67 (by kernel_rfl) b142) <|
 tie_cons (tie_at Tryz.func64 (by kernel_rfl) b143) <|
 tie_cons (tie_at Tryz.func66 (by kernel_rfl) b146) <|
 tie_cons (tie_at Tryz.func98 (by kernel_rfl) b149) <|
 tie_cons (tie_at Tryz.func61 (by kernel_rfl) b150) <|
 tie_cons (tie_at Tryz.func9 (by kernel_rfl) b153) <|
 tie_cons (tie_at Tryz.func12 (by kernel_rfl) b154) <|
 tie_cons (tie_at Tryz.func15 (by kernel_rfl) b155) <|
 tie_cons (tie_at Tryz.func7 (by kernel_rfl) b158) <|
 tie_cons (tie_at Tryz.func8 (by kernel_rfl) b159) <|
 tie_cons (tie_at Tryz.func27 (by kernel_rfl) b172) <|
 tie_cons (tie_at Tryz.func26 (by kernel_rfl) b173) <|
 tie_cons (tie_at Tryz.func56 (by kernel_rfl) b174) <|
 tie_cons (tie_at Tryz.func55 (by kernel_rfl) b175) <|
 tie_cons (tie_at Tryz.func32 (by kernel_rfl) b176) <|
 tie_cons (tie_at Tryz.func28 (by kernel_rfl) b177) <|
 tie_cons (tie_at Tryz.func92 (by kernel_rfl) b178) <|
 tie_cons (tie_at Tryz.func116 (by kernel_rfl) b179) <|
 tie_cons (tie_at Tryz.func147 (by kernel_rfl) b180) <|
 tie_cons (tie_at Tryz.func36 (by kernel_rfl) b181) <|
 tie_cons (tie_at Tryz.func69 (by kernel_rfl) b182) <|
 tie_cons (tie_at Tryz.func59 (by kernel_rfl) b183) <|
 tie_cons (tie_at Tryz.func80 (by kernel_rfl) b184) <|
 tie_cons (tie_at Tryz.func106 (by kernel_rfl) b185) <|
 tie_cons (tie_at Tryz.func105 (by kernel_rfl) b186) <|
 tie_cons (tie_at Tryz.func138 (by kernel_rfl) b187) <|
 tie_cons (tie_at Tryz.func167 (by kernel_rfl) b188) <|
 tie_cons (tie_at Tryz.func132 (by kernel_rfl) b189) <|
 tie_cons (tie_at Tryz.func131 (by kernel_rfl) b190) <|
 tie_cons (tie_at Tryz.func158 (by kernel_rfl) b191) <|
 tie_cons (tie_at Tryz.func159 (by kernel_rfl) b192) <|
 tie_cons (tie_at Tryz.func53 (by kernel_rfl) b193) <|
 tie_cons (tie_clone mixed Tryz.func88 (by kernel_rfl) rfl b194) <|
 tie_cons (tie_at Tryz.func33 (by kernel_rfl) b195) <|
 tie_cons (tie_at Tryz.func68 (by kernel_rfl) b196) <|
 tie_cons (tie_at Tryz.func30 (by kernel_rfl) b197) <|
 tie_cons (tie_at Tryz.func29 (by kernel_rfl) b198) <|
 tie_cons (tie_at Tryz.func65 (by kernel_rfl) b199) <|
 tie_cons (tie_at Tryz.func62 (by kernel_rfl) b200) <|
 tie_cons (tie_at Tryz.func14 (by kernel_rfl) b205) <|
 tie_cons (tie_at Tryz.func4 (by kernel_rfl) b276) <|
 tie_nil
theorem le2:PrimsLe (Arx.get fns2):=
 prims_cons (fun p h=>by cases h) <|
 prims_cons (fun p h=>by cases h) <|
 prims_cons (fun p h=>by cases h) <|
 prims_cons (fun p h=>by cases h) <|
 prims_cons (fun p h=>by cases h) <|
 prims_cons (fun p h=>by cases h) <|
 prims_cons (fun p h=>by cases h) <|
 prims_cons (fun p h=>by cases h) <|
 prims_cons (fun p h=>by cases h) <|
 prims_cons (fun p h=>by cases h) <|
 prims_cons (fun p h=>by cases h) <|
 prims_cons (fun p h=>by cases h) <|
 prims_cons (fun p h=>by cases h) <|
 prims_cons (fun p h=>by cases h) <|
 prims_cons (fun p h=>by cases h) <|
 prims_cons (fun p h=>by cases h) <|
 prims_cons (fun p h=>by cases h) <|
 prims_cons (fun p h=>by cases h) <|
 prims_cons (fun p h=>by cases h) <|
 prims_cons (fun p h=>by cases h) <|
 prims_cons (fun p h=>by cases h) <|
 prims_cons (fun p h=>by cases h) <|
 prims_cons (fun p h=>by cases h) <|
 prims_cons (fun p h=>by cases h) <|
 prims_cons (fun p h=>by cases h) <|
 prims_cons (fun p h=>by cases h) <|
 prims_cons (fun p h=>by cases h) <|
 prims_cons (fun p h=>by cases h) <|
 prims_cons (fun p h=>by cases h) <|
 prims_cons (fun p h=>by cases h) <|
 prims_cons (fun p h=>by cases h) <|
 prims_cons (fun p h=>by cases h) <|
 prims_cons (fun p h=>by cases h) <|
 prims_cons (fun p h=>by cases h) <|
 prims_cons (fun p h=>by cases h;exact clone_le 7) <|
 prims_cons (fun p h=>by cases h) <|
 prims_cons (fun p h=>by cases h) <|
 prims_cons (fun p h=>by cases h) <|
 prims_cons (fun p h=>by cases h) <|
 prims_cons (fun p h=>by cases h) <|
 prims_cons (fun p h=>by cases h) <|
 prims_cons (fun p h=>by cases h) <|
 prims_cons (fun p h=>by cases h) <|
 prims_nil
theorem more2 (n:Nat):MoreX (run2 (Arb.get fns1) (Arx.get fns2) n):=evalF_more (prims_more tie2) n
end Tied
end Arx
namespace Arb
open Go
def NP {α:Type} (m:M α):Prop:=∀h,(m.foot h).2=[]
theorem NP.ret {α:Type} (a:α):NP (M.ret a):=fun _=>rfl
theorem NP.fail {α:Type}:NP (M.fail:M α):=fun _=>rfl
theorem NP.bind {α β:Type} {m:M α} {f:α->M β} (h:NP m) (hf:∀a,NP (f a)):NP (m.bind f):=by
 intro g;rw[M.foot_bind];cases hr:m.run g with
 |none=>exact h g
 |some p=>simp[h g,hf p.1 p.2]
theorem NP.ok (b:Bool):NP (M.ok b):=by cases b<;>exact fun _=>rfl
theorem NP.lift {α:Type} (x:Option α):NP (M.lift x):=by cases x<;>exact fun _=>rfl
theorem NP.look (id:Nat):NP (M.look id):=by
 intro h;simp only[M.look,M.foot];cases get h id<;>rfl
theorem NP.mapL {α β:Type} {f:α->M β} (hf:∀a,NP (f a)):∀l:List α,NP (M.mapL f l)
 |[]=>.ret _
 |x::r=>.bind (hf x) fun _=>.bind (NP.mapL hf r) fun _=>.ret _
theorem NP.fz:∀(n:Nat) (a:AV),NP (fz false n a)
 |0,a=>.fail
 |n+1,a=>by
  have ih:=NP.fz n;unfold Arb.fz;cases a with
  |iv x=>cases x<;>exact .ret _
  |own id o m ver=>
   refine .bind (.look id) fun ob=>?_
   cases ob with
   |cells cs=>exact .fail
   |buf v e es=>exact .bind (.ok _) fun _=>.ret _
   |imm v e es=>exact .bind (.ok _) fun _=>.ret _
   |map _=>exact .fail
  |ref id ver i j=>
   refine .bind (.look id) fun ob=>?_
   cases ob with
   |cells cs=>exact .bind (.ok _) fun _=>.bind (.mapL ih _) fun _=>.ret _
   |buf v e es=>exact .bind (.ok _) fun _=>.bind (.lift _) fun _=>.ret _
   |imm v e es=>exact .bind (.ok _) fun _=>.bind (.lift _) fun _=>.ret _
   |map _=>exact .fail
  |clo f caps=>exact .bind (.mapL ih _) fun _=>.ret _
  |undef=>exact .fail
  |agg cs=>exact .fail
  |tup vs=>exact .fail
theorem NP.fzC (a:AV):NP (fzC false a):=.bind (NP.fz 8 a) fun _=>.ret _
theorem NP.fz1 (a:AV):NP (fz1 false a):=by
 cases a with
 |agg cs=>exact .bind (.mapL NP.fzC _) fun _=>.ret _
 |iv x=>exact NP.fzC _
 |own id o n v=>exact NP.fzC _
 |ref id v i j=>exact NP.fzC _
 |clo f c=>exact NP.fzC _
 |undef=>exact NP.fzC _
 |tup vs=>exact NP.fzC _
theorem NP.mk (agg:Bool) (l:List AV):NP (mk agg l):=by
 unfold Arb.mk;cases agg
 ·match l with
  |[]=>exact .fail
  |[x]=>exact .ret _
  |_::_::_=>exact .fail
 ·exact .ret _
theorem NP.load (agg:Bool) (sz:Nat) (a:AV):NP (load agg sz a):=by
 unfold Arb.load;split
 ·exact .bind (.look _) fun o=>.bind (.lift _) fun _=>.bind (.ok _) fun _=>.mk _ _
 ·exact .bind (.ok _) fun _=>.mk _ _
 ·exact .fail
theorem NP.idx (a:AV):NP (idx a):=by unfold Arb.idx;split<;>first | exact .ret _ | exact .fail
theorem NP.bound (y:Nat) (a:Option AV):NP (bound y a):=by unfold Arb.bound;split<;>first | exact .ret _ | exact .fail | exact .bind (.ok _) fun _=>.ret _
theorem NP.fld (agg:Bool) (off sz:Nat) (a:AV):NP (fld agg off sz a):=by
 unfold Arb.fld;split
 ·exact .bind (.ok _) fun _=>.mk _ _
 ·exact .fail
def quiet:IOp->Bool
 |.mov _ | .pick _ _ _ | .load _ _ _ | .fadr _ _ | .fld _ _ _ _ | .iarr _ _ _ _ | .isl _ _ _ | .xarr _ _ _ _ _ | .bin _ _ _ _ | .eqc _ _ _ _ | .un _ _ | .cvi _ _ | .cvs _ | .len _ _ | .mn _ _ | .mx _ _ | .ext _ _ | .nchk _ | .call 0 _ _=>true
 |_=>false
theorem quiet_np {call:CallF} {slot:Nat} {ρ:Opd->AV} {op:IOp} (h:quiet op=true):NP (osem call slot ρ op):=by
 unfold quiet at h;split at h<;>first | cases h | skip
 ·exact .ret _
 ·simp only[osem];split<;>first | exact .ret _ | exact .fail
 ·exact .load _ _ _
 ·simp only[osem,fadr];split
  ·exact .bind (.look _) fun _=>.bind (.ok _) fun _=>.ret _
  ·exact .bind (.ok _) fun _=>.ret _
  ·exact .fail
 ·exact .fld _ _ _ _
 ·simp only[osem,iarr];refine .bind (.idx _) fun _=>.bind (.ok _) fun _=>?_
  split
  ·exact .bind (.look _) fun _=>.bind (.ok _) fun _=>.ret _
  ·exact .bind (.ok _) fun _=>.ret _
  ·exact .fail
 ·simp only[osem,isl];refine .bind (.idx _) fun _=>.bind (.ok _) fun _=>?_
  split
  ·refine .bind (.ok _) fun _=>.bind (.look _) fun o=>?_
   cases o<;>first | exact .bind (.ok _) fun _=>.ret _ | exact .fail
  ·exact .bind (.ok _) fun _=>.bind (.lift _) fun _=>.ret _
  ·exact .fail
 ·exact .bind (.idx _) fun _=>.bind (.ok _) fun _=>.fld _ _ _ _
 ·exact .bind (.lift _) fun _=>.ret _
 ·simp only[osem];split<;>first | exact .bind (.lift _) fun _=>.ret _ | exact .fail
 ·exact .bind (.lift _) fun _=>.ret _
 ·exact .bind (.idx _) fun _=>.ret _
 ·simp only[osem];split<;>first | exact .ret _ | exact .fail
 ·simp only[osem,len];split
  ·refine .bind (.look _) fun o=>?_
   cases o<;>first | exact .bind (.ok _) fun _=>.ret _ | exact .fail
  ·exact .ret _
  ·exact .ret _
  ·exact .ret _
  ·exact .fail
 ·simp only[osem];split<;>first | exact .bind (.lift _) fun _=>.ret _ | exact .fail
 ·simp only[osem];split<;>first | exact .bind (.lift _) fun _=>.ret _ | exact .fail
 ·simp only[osem];split<;>first | exact .lift _ | exact .fail
 ·simp only[osem];split<;>first | exact .bind (.look _) fun _=>.bind (.ok _) fun _=>.ret _ | exact .ret _ | exact .fail
 ·exact .bind (.lift _) fun _=>.bind (.mapL NP.fz1 _) fun _=>.bind (.lift _) fun _=>.bind (.ok _) fun _=>.ret _
theorem quiet_feet {call:CallF}:∀(ops:List IOper) (slot:Nat) (s:St),ops.all (fun o=>quiet o.op)=true->(evalFeet call ops slot s).all (·.2.isEmpty)=true
 |[],_,_,_=>rfl
 |o::r,slot,s,h=>by
  simp only[List.all_cons,Bool.and_eq_true]at h;simp only[evalFeet,List.all_cons,Bool.and_eq_true];refine⟨?_,?_⟩
  ·unfold footOf;split
   ·rw[quiet_np h.1];rfl
   ·rfl
  ·split
   ·exact quiet_feet r _ _ h.2
   ·rfl
theorem rgn_quiet {call:CallF} {draw:Bool} {ops:List IOper} {keep:List Nat} {s s1:St} (hq:ops.all (fun o=>quiet o.op)=true) (h:evalOps call ops s.nx s=some s1) :
  evalRgn call draw ops keep s=some { fr:=keepFr keep s1.fr,hp:=s1.hp,nx:=s.nx+64*ops.length }:=by
 unfold evalRgn;rw[h];simp only[orderOk,quiet_feet ops s.nx s hq,Bool.true_or,Bool.or_true,if_true]
theorem Wp.quiet {prog:Nat->Option IFn} {draw:Bool} {ops:List IOper} {keep:List Nat} {s s1:St} {Q:Ex->St->Prop} {K:Nat} (hq:ops.all (fun o=>Arb.quiet o.op)=true) (h:∀n,K<=n->evalOps (evalF prog n) ops s.nx s=some s1)
  (q:Q .norm { fr:=keepFr keep s1.fr,hp:=s1.hp,nx:=s.nx+64*ops.length }):Wp prog (.rgn draw ops keep) s Q:=Wp.rgn (K:=K) (fun n hn=>rgn_quiet hq (h n hn)) q
theorem rgn_quiet' {call:CallF} {draw:Bool} {ops:List IOper} {keep:List Nat} {s s2:St} (hq:ops.all (fun o=>Arb.quiet o.op)=true)
  (h:(evalOps call ops s.nx s).map (fun s1=>({ fr:=keepFr keep s1.fr,hp:=s1.hp,nx:=s.nx+64*ops.length }:St))=some s2):evalRgn call draw ops keep s=some s2:=by
 simp only[Option.map_eq_some_iff]at h;obtain⟨s1,h1,rfl⟩:=h;exact rgn_quiet hq h1

structure S where
 a:Bool
 i:List (Int×Int)
 c:Bool
 s:List ByteArray
def rng (p:Int×Int):List IV:=[.int .i64 p.1,.int .i64 p.2]
def st1 (s:ByteArray):List IV:=[.str s]
def S.enc (x:S):List IV:=[.bool x.a,.sl 2 (x.i.map rng),.bool x.c,.sl 1 (x.s.map st1)]
def S.av (x:S):AV:=.agg [.iv (.bool x.a),.iv (.sl 2 (x.i.map rng)),.iv (.bool x.c),.iv (.sl 1 (x.s.map st1))]
structure B where
 s0:S
 s1:S
 s2:S
 s3:S
def B.enc (b:B):List IV:=b.s0.enc++(b.s1.enc++(b.s2.enc++b.s3.enc))
def filt (l:List B):AV:=.iv (.sl 16 (l.map B.enc))
def sets (l:List S):AV:=.iv (.sl 4 (l.map S.enc))
theorem ba_beq (x y:ByteArray):(x==y)=decide (x=y):=by
 cases x with
 |mk d=>
  cases y with
  |mk e=>
   show(d==e)=_
   rw[Bool.eq_iff_iff];simp
theorem wrap_succ {k N:Nat} (h:k<N) (hN:N<=maxLen):IntKind.i64.wrap ((k:Int)+1)=(k:Int)+1:=IntWalk.i64_in _ (by unfold maxLen at hN;omega)
theorem take_succ_all {α:Type} {l:List α} {i:Nat} {x:α} {f:α->Bool} (hx:l[i]?=some x):(l.take (i+1)).all f=((l.take i).all f&&f x):=by
 rw[List.take_add_one,hx];simp
theorem all_false {α:Type} {l:List α} {i:Nat} {x:α} {f:α->Bool} (hx:l[i]?=some x) (h:f x=false):l.all f=false:=by
 rw[List.all_eq_false];exact⟨x,List.mem_of_getElem? hx,by simp[h]⟩
theorem nrm_iv (n0:Nat) (h:Hp) (x:IV):nrm n0 h 8 (.iv x) = .iv x:=rfl
theorem nrm_ivs (n0:Nat) (h:Hp):∀l:List IV,(l.map AV.iv).map (nrm n0 h 8)=l.map .iv
 |[]=>rfl
 |x::r=>by rw[List.map_cons,List.map_cons,nrm_iv,nrm_ivs n0 h r]
theorem nrm_ivs7 (n0:Nat) (h:Hp):∀l:List IV,(l.map AV.iv).map (nrm n0 h 7)=l.map .iv
 |[]=>rfl
 |x::r=>by rw[List.map_cons,List.map_cons,show nrm n0 h 7 (.iv x) = .iv x from rfl,nrm_ivs7 n0 h r]
theorem nrm_agg (n0:Nat) (h:Hp) (l:List IV):nrm n0 h 8 (.agg (l.map .iv)) = .agg (l.map .iv):=by
 rw[show nrm n0 h 8 (.agg (l.map .iv)) = .agg ((l.map AV.iv).map (nrm n0 h 7)) from rfl,nrm_ivs7]
theorem Wp.range {prog:Nat->Option IFn} {keep:List Nat} {b:IC} {s:St} {Q:Ex->St->Prop} (N:Nat) (σ:Nat->St) (G:Nat->Prop) (h0:({ s with fr:=keepFr keep s.fr }:St)=σ 0) (g0:G 0)
  (round:∀i,i<N->G i->Wp prog b (σ i) (Ex.then (fun s2=>again keep s.nx s2=σ (i+1)/\G (i+1)) Q)) (stop:G N->Wp prog b (σ N) (Ex.then (fun _=>False) Q)):Wp prog (.loop keep b) s Q:=by
 refine Wp.loop (fun m s1=>∃i,i+m=N/\s1=σ i/\G i) (m:=N) ⟨0,by omega,h0,g0⟩ ?_;rintro m s1 ⟨i,hi,rfl,hg⟩;cases m with
 |zero=>
  obtain rfl:i=N:=by omega
  refine(stop hg).mono fun e s2 h=>?_
  cases e with
  |norm=>exact h.elim
  |exit j=>exact h
  |ret=>exact h
 |succ m=>
  refine(round i (by omega) hg).mono fun e s2 h=>?_
  cases e with
  |norm=>exact⟨m,by omega,i+1,by omega,h.1,h.2⟩
  |exit j=>exact h
  |ret=>exact h
end Arb
namespace Arb
open Go
attribute [local simp] evalRgn Option.map_some evalOps step wants osem M.run_bind M.mapL M.run M.ok M.fresh M.write M.look M.lift putD Arb.set ev Arb.get keepFr bin intBin strBin mk params cellsM load obRead fadr fld isl iarr xarr idx len valid slc bound store splice nilc un eqs eq0 evalFeet footOf M.foot orderOk apartAll apart1 clash meets callM fcallM callee fz1 fzC fz flat flat1 flat0 flatI Option.bind_some putAll M.bind oo om ol oa oc ob on og od oe ci cb
section
variable {prog:Nat->Option IFn}
theorem take_succ_eq {α:Type} {a b:List α} {i:Nat} {x y:α} (hx:a[i]?=some x) (hy:b[i]?=some y) (h:a.take i=b.take i) (e:x=y):a.take (i+1)=b.take (i+1):=by
 rw[List.take_add_one,List.take_add_one,hx,hy,h,e]
theorem p_eqR (h:prog 32=some F32) (a b:List (Int×Int)) (hl:a.length<=maxLen):Ans prog 32 [.iv (.sl 2 (a.map rng)),.iv (.sl 2 (b.map rng))] (.bI (decide (a=b))):=by
 refine Ans.of h rfl rfl (Wp.seq ?_);refine Wp.rg ?_;refine Wp.seq (Wp.seq ?_);refine Wp.rgn (K:=0) (s':=⟨[(0,.iv (.sl 2 (a.map rng))),(1,.iv (.sl 2 (b.map rng))),(10,.bI (a.length != b.length))],[],1384⟩) (fun n hn=>by
  have:((a.length:Int) != b.length)=(a.length != b.length):=by rw[Bool.eq_iff_iff];simp;omega
  simp[this]) ?_
 refine Wp.cond rfl ?_;cases hne:a.length != b.length with
 |true=>
  refine Wp.seq ?_;refine Wp.rg ?_;refine Wp.ret ?_;have:decide (a=b)=false:=by simp at hne ⊢;exact fun e=>hne (by rw[e])
  rw[this];rfl
 |false=>
  have heq:a.length=b.length:=by simpa using hne
  refine Wp.skip (Wp.seq (Wp.seq ?_));refine Wp.rg ?_;refine Wp.block ?_;refine Wp.range a.length (fun i=>⟨[(0,.iv (.sl 2 (a.map rng))),(1,.iv (.sl 2 (b.map rng))),(12,.nI a.length),(13,.nI i)],[],1576⟩) (fun i=>a.take i=b.take i) (by simp[keepFr,get]) (by simp) ?_ ?_
  ·intro i hi hg;obtain⟨x,hx⟩:∃x,a[i]?=some x:=⟨_,List.getElem?_eq_getElem hi⟩;obtain⟨y,hy⟩:∃y,b[i]?=some y:=⟨_,List.getElem?_eq_getElem (by omega)⟩;refine Wp.seq ?_;refine Wp.rgn (K:=0) (fun n _=>by simp[hi];rfl) ?_;refine Wp.seq (Wp.cond rfl (Wp.skip (Wp.seq (Wp.block (Wp.seq ?_)))));refine Wp.rg ?_;refine Wp.seq ?_;refine Wp.rgn (K:=0) (s':=⟨[(0,.iv (.sl 2 (a.map rng))),(1,.iv (.sl 2 (b.map rng))),(12,.nI a.length),(13,.nI i),(24,.bI (!(x.1==y.1&&x.2==y.2)))],[],2344⟩) (fun n hn=>by
    simp[hx,hy,rng]) ?_
   refine Wp.cond rfl ?_;cases hb:(x.1==y.1&&x.2==y.2)with
   |true=>
    refine Wp.skip ?_;refine Wp.rg ?_;refine⟨by simp[again,keepFr,get,nrm,wrap_succ hi hl],take_succ_eq hx hy hg ?_⟩;simp at hb;exact Prod.ext hb.1 hb.2
   |false=>
    refine Wp.seq ?_;refine Wp.rg ?_;refine Wp.ret ?_;have:decide (a=b)=false:=by
     simp at hb ⊢;intro e;rw[e,hy]at hx;cases hx;exact hb rfl rfl
    rw[this];rfl
  ·intro hg;refine Wp.seq ?_;refine Wp.rg ?_;refine Wp.seq (Wp.cond rfl (Wp.exit ?_));simp only[Ex.then,Ex.inBlock,if_true];refine Wp.seq ?_;refine Wp.rg ?_;refine Wp.ret ?_;have:a=b:=by rw[List.take_length,heq,List.take_length]at hg;exact hg
   subst this;simp[FinS,resAll,resM,outA,ev,get,F32,fz1,fzC,fz,M.bind,M.run,shut,fzA]
theorem p_eqT (h:prog 33=some F33) (a b:List ByteArray) (hl:a.length<=maxLen):Ans prog 33 [.iv (.sl 1 (a.map st1)),.iv (.sl 1 (b.map st1))] (.bI (decide (a=b))):=by
 refine Ans.of h rfl rfl (Wp.seq ?_);refine Wp.rg ?_;refine Wp.seq (Wp.seq ?_);refine Wp.rgn (K:=0) (s':=⟨[(0,.iv (.sl 1 (a.map st1))),(1,.iv (.sl 1 (b.map st1))),(10,.bI (a.length != b.length))],[],1384⟩) (fun n hn=>by
  have:((a.length:Int) != b.length)=(a.length != b.length):=by rw[Bool.eq_iff_iff];simp;omega
  simp[this]) ?_
 refine Wp.cond rfl ?_;cases hne:a.length != b.length with
 |true=>
  refine Wp.seq ?_;refine Wp.rg ?_;refine Wp.ret ?_;have:decide (a=b)=false:=by simp at hne ⊢;exact fun e=>hne (by rw[e])
  rw[this];rfl
 |false=>
  have heq:a.length=b.length:=by simpa using hne
  refine Wp.skip (Wp.seq (Wp.seq ?_));refine Wp.rg ?_;refine Wp.block ?_;refine Wp.range a.length (fun i=>⟨[(0,.iv (.sl 1 (a.map st1))),(1,.iv (.sl 1 (b.map st1))),(12,.nI a.length),(13,.nI i)],[],1576⟩) (fun i=>a.take i=b.take i) (by simp[keepFr,get]) (by simp) ?_ ?_
  ·intro i hi hg;obtain⟨x,hx⟩:∃x,a[i]?=some x:=⟨_,List.getElem?_eq_getElem hi⟩;obtain⟨y,hy⟩:∃y,b[i]?=some y:=⟨_,List.getElem?_eq_getElem (by omega)⟩;refine Wp.seq ?_;refine Wp.rgn (K:=0) (fun n _=>by simp[hi];rfl) ?_;refine Wp.seq (Wp.cond rfl (Wp.skip (Wp.seq (Wp.block (Wp.seq ?_)))));refine Wp.rg ?_;refine Wp.seq ?_;refine Wp.rgn (K:=0) (s':=⟨[(0,.iv (.sl 1 (a.map st1))),(1,.iv (.sl 1 (b.map st1))),(12,.nI a.length),(13,.nI i),(24,.bI (!(x==y)))],[],2344⟩) (fun n hn=>by
    simp[hx,hy,st1]) ?_
   refine Wp.cond rfl ?_;cases hb:(x==y)with
   |true=>
    refine Wp.skip ?_;refine Wp.rg ?_;refine⟨by simp[again,keepFr,get,nrm,wrap_succ hi hl],take_succ_eq hx hy hg ?_⟩;rw[ba_beq,decide_eq_true_eq]at hb;exact hb
   |false=>
    refine Wp.seq ?_;refine Wp.rg ?_;refine Wp.ret ?_;have:decide (a=b)=false:=by
     rw[decide_eq_false_iff_not];intro e;rw[e,hy]at hx;cases hx;simp[ba_beq]at hb
    rw[this];rfl
  ·intro hg;refine Wp.seq ?_;refine Wp.rg ?_;refine Wp.seq (Wp.cond rfl (Wp.exit ?_));simp only[Ex.then,Ex.inBlock,if_true];refine Wp.seq ?_;refine Wp.rg ?_;refine Wp.ret ?_;have:a=b:=by rw[List.take_length,heq,List.take_length]at hg;exact hg
   subst this;simp[FinS,resAll,resM,outA,ev,get,F33,fz1,fzC,fz,M.bind,M.run,shut,fzA]
def sameS (x y:S):Bool:=x.a==y.a&&(x.c==y.c&&(decide (x.i=y.i)&&decide (x.s=y.s)))
theorem p_sameS (h32:prog 32=some F32) (h33:prog 33=some F33) (h:prog 17=some F17) (x y:S) (hi:x.i.length<=maxLen) (hs:x.s.length<=maxLen):Ans prog 17 [x.av,y.av] (.bI (sameS x y)):=by
 obtain⟨K1,h1⟩:=p_eqR h32 x.i y.i hi;obtain⟨K2,h2⟩:=p_eqT h33 x.s y.s hs;refine Ans.of h rfl rfl (Wp.seq ?_);refine Wp.rgn (K:=0) (fun n _=>by simp[S.av];rfl) ?_;refine Wp.seq ?_;refine Wp.rgn (K:=max K1 K2) (s':=⟨[(4,.bI (sameS x y))],[(1000,.cells [.bI x.a,.iv (.sl 2 (x.i.map rng)),.bI x.c,.iv (.sl 1 (x.s.map st1))]),(1064,.cells [.bI y.a,.iv (.sl 2 (y.i.map rng)),.bI y.c,.iv (.sl 1 (y.s.map st1))])],2920⟩) (fun n hn=>by
  have e1:=h1 n (by omega);have e2:=h2 n (by omega);cases b1:x.a==y.a<;>cases b2:x.c==y.c<;>cases b3:decide (x.i=y.i)<;>simp only[b3]at e1<;>simp[b1,b2,sameS,b3,e1,e2]) ?_
 exact Wp.ret rfl
def smallS (x:S):Bool:=decide (x.i.length<=6)&&decide (x.s.length<=6)
theorem p_smallS (h:prog 24=some F24) (x:S):Ans prog 24 [x.av] (.bI (smallS x)):=by
 refine Ans.of h rfl rfl (Wp.seq ?_);refine Wp.rgn (K:=0) (fun n _=>by simp[S.av];rfl) ?_;refine Wp.seq ?_;refine Wp.rgn (K:=0) (s':=⟨[(2,.bI (smallS x))],[(1000,.cells [.bI x.a,.iv (.sl 2 (x.i.map rng)),.bI x.c,.iv (.sl 1 (x.s.map st1))])],1832⟩) (fun n hn=>by
  have e1:decide ((x.i.length:Int)<=6)=decide (x.i.length<=6):=decide_eq_decide.2 (by omega);have e2:decide ((x.s.length:Int)<=6)=decide (x.s.length<=6):=decide_eq_decide.2 (by omega);cases b1:decide (x.i.length<=6)<;>simp[smallS,e1,e2,b1]) ?_
 exact Wp.ret rfl
def emptyS (x:S):Bool:=!x.a&&(x.i.length==0&&(!x.c&&x.s.length==0))
theorem p_emptyS (h:prog 66=some F66) (x:S):Ans prog 66 [x.av] (.bI (emptyS x)):=by
 refine Ans.of h rfl rfl (Wp.seq ?_);refine Wp.rgn (K:=0) (fun n _=>by simp[S.av];rfl) ?_;refine Wp.seq ?_;refine Wp.rgn (K:=0) (s':=⟨[(2,.bI (emptyS x))],[(1000,.cells [.bI x.a,.iv (.sl 2 (x.i.map rng)),.bI x.c,.iv (.sl 1 (x.s.map st1))])],2472⟩) (fun n hn=>by
  have e1:((x.i.length:Int)==0)=(x.i.length==0):=by rw[Bool.eq_iff_iff];simp
  have e2:((x.s.length:Int)==0)=(x.s.length==0):=by rw[Bool.eq_iff_iff];simp
  cases b0:x.a<;>cases b1:x.i.length==0<;>cases b2:x.c<;>simp[emptyS,e1,e2,b0,b1,b2]) ?_
 exact Wp.ret rfl
end
def B.get (b:B):Nat->S
 |0=>b.s0
 |1=>b.s1
 |2=>b.s2
 |_=>b.s3
def B.cs (b:B):List AV:=b.enc.map .iv
def B.av (b:B):AV:=.agg b.cs
theorem B.cs_at (b:B) {i:Nat} (h:i<4):(b.cs.drop (i*4)).take 4=[.iv (.bool (b.get i).a),.iv (.sl 2 ((b.get i).i.map rng)),.iv (.bool (b.get i).c),.iv (.sl 1 ((b.get i).s.map st1))]:=by
 match i,h with
 |0,_=>rfl
 |1,_=>rfl
 |2,_=>rfl
 |3,_=>rfl
theorem B.cs_16 (b:B):b.cs.take 16=b.cs:=rfl
theorem B.cs_len (b:B):b.cs.length=16:=rfl
theorem B.cs_nrm (b:B) (n0:Nat) (h:Hp):b.cs.map (nrm n0 h 8)=b.cs:=nrm_ivs n0 h b.enc
def notNil:IV->Bool
 |.nsl _=>false
 |_=>true
theorem nilc_plain:∀(l:List IV) (s:Nat),l.all notNil=true->nilc s (l.map .iv) = .ret (l.map .iv)
 |[],s,_=>by simp[nilc]
 |x::r,s,h=>by
  simp only[List.all_cons,Bool.and_eq_true]at h;have ih:=nilc_plain r (s+1) h.2;cases x with
  |nsl e=>simp[notNil]at h
  |_=>simp only[List.map_cons,nilc,ih,M.bind]
theorem fzC_plain (w:Bool):∀(l:List IV),l.all notNil=true->M.mapL (fzC w) (l.map .iv) = .ret (l.map .iv)
 |[],_=>by simp[M.mapL]
 |x::r,h=>by
  simp only[List.all_cons,Bool.and_eq_true]at h;have ih:=fzC_plain w r h.2;cases x with
  |nsl e=>simp[notNil]at h
  |_=>rw[List.map_cons,M.mapL,ih];rfl
theorem fz_plain (w:Bool):∀(l:List IV),l.all notNil=true->M.mapL (fz w 8) (l.map .iv) = .ret l
 |[],_=>by simp[M.mapL]
 |x::r,h=>by
  simp only[List.all_cons,Bool.and_eq_true]at h;have ih:=fz_plain w r h.2;cases x with
  |nsl e=>simp[notNil]at h
  |_=>rw[List.map_cons,M.mapL,ih];rfl
theorem B.enc_all (b:B):b.enc.all notNil=true:=by simp[B.enc,S.enc,notNil]
theorem B.cs_fzC (b:B) (w:Bool):M.mapL (fzC w) b.cs = .ret b.cs:=fzC_plain w b.enc b.enc_all
theorem B.cs_fz (b:B) (w:Bool):M.mapL (fz w 8) b.cs = .ret b.enc:=fz_plain w b.enc b.enc_all
theorem B.cs_nilc (b:B) (s:Nat):nilc s b.cs = .ret b.cs:=nilc_plain b.enc s (by simp[B.enc,S.enc,notNil])
theorem B.agg_nrm (b:B) (n0:Nat) (h:Hp):nrm n0 h 8 (.agg b.cs)=b.av:=nrm_agg n0 h b.enc
theorem wrap_lt4 {i:Nat} (h:i<4):IntKind.i64.wrap ((i:Int)+1)=(i:Int)+1:=wrap_succ h (by simp[maxLen])
section
variable {prog:Nat->Option IFn}
def allB (f:S->Bool) (b:B):Bool:=f b.s0&&(f b.s1&&(f b.s2&&f b.s3))
def anyB (f:S->Bool) (b:B):Bool:=f b.s0||(f b.s1||(f b.s2||f b.s3))
theorem allB_false {f:S->Bool} {b:B} {i:Nat} (h:i<4) (hf:f (b.get i)=false):allB f b=false:=by
 match i,h with
 |0,_=>simp only[B.get]at hf;simp[allB,hf]
 |1,_=>simp only[B.get]at hf;simp[allB,hf]
 |2,_=>simp only[B.get]at hf;simp[allB,hf]
 |3,_=>simp only[B.get]at hf;simp[allB,hf]
theorem allB_true {f:S->Bool} {b:B} (h:∀i,i<4->f (b.get i)=true):allB f b=true:=by
 have h0:=h 0 (by omega);have h1:=h 1 (by omega);have h2:=h 2 (by omega);have h3:=h 3 (by omega);simp only[B.get]at h0 h1 h2 h3;simp[allB,h0,h1,h2,h3]
theorem anyB_true {f:S->Bool} {b:B} {i:Nat} (h:i<4) (hf:f (b.get i)=true):anyB f b=true:=by
 match i,h with
 |0,_=>simp only[B.get]at hf;simp[anyB,hf]
 |1,_=>simp only[B.get]at hf;simp[anyB,hf]
 |2,_=>simp only[B.get]at hf;simp[anyB,hf]
 |3,_=>simp only[B.get]at hf;simp[anyB,hf]
theorem anyB_false {f:S->Bool} {b:B} (h:∀i,i<4->f (b.get i)=false):anyB f b=false:=by
 have h0:=h 0 (by omega);have h1:=h 1 (by omega);have h2:=h 2 (by omega);have h3:=h 3 (by omega);simp only[B.get]at h0 h1 h2 h3;simp[anyB,h0,h1,h2,h3]
theorem p_smallB (h24:prog 24=some F24) (h:prog 46=some F46) (b:B):Ans prog 46 [b.av] (.bI (allB smallS b)):=by
 refine Ans.of h rfl rfl (Wp.seq ?_);refine Wp.rgn (K:=0) (s':=⟨[(1,.ref 1000 0 0 0)],[(1000,.cells b.cs)],1128⟩) (fun n _=>by simp[evalRgn,evalOps,step,wants,osem,M.run_bind,M.run,M.fresh,M.write,putD,Arb.set,ev,Arb.get,keepFr,params,cellsM,B.av,B.cs_nilc]) ?_;refine Wp.seq (Wp.seq ?_);refine Wp.rgn (K:=0) (fun n _=>by simp[B.cs_16,B.cs_len];rfl) ?_;refine Wp.block ?_;refine Wp.range 4 (fun i=>⟨[(5,b.av),(6,.nI i)],[(1000,.cells b.cs)],1256⟩) (fun i=>∀j,j<i->smallS (b.get j)=true) rfl (by intro j hj;omega) ?_ ?_
 ·intro i hi hg;have hi':(i:Int)<4:=by omega
  have hm:min 4 (16 - i*4)=4:=by omega
  refine Wp.seq ?_;refine Wp.rgn (K:=0) (s':=⟨[(5,b.av),(6,.nI i),(7,.bI true)],[(1000,.cells b.cs)],1320⟩) (fun n hn=>by
   have:decide ((i:Int)<4)=true:=decide_eq_true (by omega);simp[this]) ?_
  refine Wp.seq (Wp.cond rfl (Wp.skip (Wp.seq (Wp.block (Wp.seq ?_)))));refine Wp.rgn (K:=0) (fun n _=>by rw[show b.av = .agg b.cs from rfl];simp[B.cs_at b hi,hi',B.cs_len,hm];rfl) ?_;refine Wp.seq ?_;obtain⟨K,hK⟩:=p_smallS h24 (b.get i);refine Wp.rgn (K:=K) (fun n hn=>by
   have hc:=hK n hn;simp only[S.av]at hc;simp[hc];rfl) ?_
  refine Wp.cond rfl ?_;cases hs:smallS (b.get i)with
  |false=>
   refine Wp.seq ?_;refine Wp.rg ?_;refine Wp.ret ?_;rw[allB_false hi hs];rfl
  |true=>
   refine Wp.skip ?_;refine Wp.rg ?_;refine⟨?_,fun j hj=>?_⟩
   ·simp[again,keepFr,get,nrm_iv,nrmO,B.agg_nrm,B.cs_nrm,wrap_lt4 hi]
   ·by_cases h:j=i
    ·subst h;exact hs
    ·exact hg j (by omega)
 ·intro hg;refine Wp.seq ?_;refine Wp.rg ?_;refine Wp.seq (Wp.cond rfl (Wp.exit ?_));simp only[Ex.then,Ex.inBlock,if_true];refine Wp.seq ?_;refine Wp.rg ?_;refine Wp.ret ?_;rw[allB_true hg];rfl
theorem p_rightB (rightS:S->Bool) (hR:∀x:S,x.i.length<=maxLen->x.s.length<=maxLen->Ans prog 58 [x.av] (.bI (rightS x))) (h:prog 45=some F45) (b:B) (hL:∀i,i<4->(b.get i).i.length<=maxLen/\(b.get i).s.length<=maxLen):Ans prog 45 [b.av] (.bI (allB rightS b)):=by
 refine Ans.of h rfl rfl (Wp.seq ?_);refine Wp.rgn (K:=0) (s':=⟨[(1,.ref 1000 0 0 0)],[(1000,.cells b.cs)],1128⟩) (fun n _=>by simp[evalRgn,evalOps,step,wants,osem,M.run_bind,M.run,M.fresh,M.write,putD,Arb.set,ev,Arb.get,keepFr,params,cellsM,B.av,B.cs_nilc]) ?_;refine Wp.seq (Wp.seq ?_);refine Wp.rgn (K:=0) (fun n _=>by simp[B.cs_16,B.cs_len];rfl) ?_;refine Wp.block ?_;refine Wp.range 4 (fun i=>⟨[(5,b.av),(6,.nI i)],[(1000,.cells b.cs)],1256⟩) (fun i=>∀j,j<i->rightS (b.get j)=true) rfl (by intro j hj;omega) ?_ ?_
 ·intro i hi hg;have hi':(i:Int)<4:=by omega
  have hm:min 4 (16 - i*4)=4:=by omega
  refine Wp.seq ?_;refine Wp.rgn (K:=0) (s':=⟨[(5,b.av),(6,.nI i),(7,.bI true)],[(1000,.cells b.cs)],1320⟩) (fun n hn=>by
   have:decide ((i:Int)<4)=true:=decide_eq_true (by omega);simp[this]) ?_
  refine Wp.seq (Wp.cond rfl (Wp.skip (Wp.seq (Wp.block (Wp.seq ?_)))));refine Wp.rgn (K:=0) (fun n _=>by rw[show b.av = .agg b.cs from rfl];simp[B.cs_at b hi,hi',B.cs_len,hm];rfl) ?_;refine Wp.seq ?_;obtain⟨K,hK⟩:=hR (b.get i) (hL i hi).1 (hL i hi).2;refine Wp.rgn (K:=K) (fun n hn=>by
   have hc:=hK n hn;simp only[S.av]at hc;simp[hc];rfl) ?_
  refine Wp.cond rfl ?_;cases hs:rightS (b.get i)with
  |false=>
   refine Wp.seq ?_;refine Wp.rg ?_;refine Wp.ret ?_;rw[allB_false hi hs];rfl
  |true=>
   refine Wp.skip ?_;refine Wp.rg ?_;refine⟨?_,fun j hj=>?_⟩
   ·simp[again,keepFr,get,nrm_iv,nrmO,B.agg_nrm,B.cs_nrm,wrap_lt4 hi]
   ·by_cases h:j=i
    ·subst h;exact hs
    ·exact hg j (by omega)
 ·intro hg;refine Wp.seq ?_;refine Wp.rg ?_;refine Wp.seq (Wp.cond rfl (Wp.exit ?_));simp only[Ex.then,Ex.inBlock,if_true];refine Wp.seq ?_;refine Wp.rg ?_;refine Wp.ret ?_;rw[allB_true hg];rfl
theorem p_emptyB (h66:prog 66=some F66) (h:prog 59=some F59) (b:B):Ans prog 59 [b.av] (.bI (anyB emptyS b)):=by
 refine Ans.of h rfl rfl (Wp.seq ?_);refine Wp.rgn (K:=0) (s':=⟨[(1,.ref 1000 0 0 0)],[(1000,.cells b.cs)],1128⟩) (fun n _=>by simp[evalRgn,evalOps,step,wants,osem,M.run_bind,M.run,M.fresh,M.write,putD,Arb.set,ev,Arb.get,keepFr,params,cellsM,B.av,B.cs_nilc]) ?_;refine Wp.seq (Wp.seq ?_);refine Wp.rgn (K:=0) (fun n _=>by simp[B.cs_16,B.cs_len];rfl) ?_;refine Wp.block ?_;refine Wp.range 4 (fun i=>⟨[(5,b.av),(6,.nI i)],[(1000,.cells b.cs)],1256⟩) (fun i=>∀j,j<i->emptyS (b.get j)=false) rfl (by intro j hj;omega) ?_ ?_
 ·intro i hi hg;have hi':(i:Int)<4:=by omega
  have hm:min 4 (16 - i*4)=4:=by omega
  refine Wp.seq ?_;refine Wp.rgn (K:=0) (s':=⟨[(5,b.av),(6,.nI i),(7,.bI true)],[(1000,.cells b.cs)],1320⟩) (fun n hn=>by
   have:decide ((i:Int)<4)=true:=decide_eq_true (by omega);simp[this]) ?_
  refine Wp.seq (Wp.cond rfl (Wp.skip (Wp.seq (Wp.block (Wp.seq ?_)))));refine Wp.rgn (K:=0) (fun n _=>by rw[show b.av = .agg b.cs from rfl];simp[B.cs_at b hi,hi',B.cs_len,hm];rfl) ?_;refine Wp.seq ?_;obtain⟨K,hK⟩:=p_emptyS h66 (b.get i);refine Wp.rgn (K:=K) (fun n hn=>by
   have hc:=hK n hn;simp only[S.av]at hc;simp[hc];rfl) ?_
  refine Wp.cond rfl ?_;cases hs:emptyS (b.get i)with
  |true=>
   refine Wp.seq ?_;refine Wp.rg ?_;refine Wp.ret ?_;rw[anyB_true hi hs];rfl
  |false=>
   refine Wp.skip ?_;refine Wp.rg ?_;refine⟨?_,fun j hj=>?_⟩
   ·simp[again,keepFr,get,nrm_iv,nrmO,B.agg_nrm,B.cs_nrm,wrap_lt4 hi]
   ·by_cases h:j=i
    ·subst h;exact hs
    ·exact hg j (by omega)
 ·intro hg;refine Wp.seq ?_;refine Wp.rg ?_;refine Wp.seq (Wp.cond rfl (Wp.exit ?_));simp only[Ex.then,Ex.inBlock,if_true];refine Wp.seq ?_;refine Wp.rg ?_;refine Wp.ret ?_;rw[anyB_false hg];rfl
end
def S.cs (x:S):List AV:=x.enc.map .iv
theorem S.cs_nrm (x:S) (n0:Nat) (h:Hp):x.cs.map (nrm n0 h 8)=x.cs:=nrm_ivs n0 h x.enc
theorem nrm_ref_cells {n0:Nat} {h:Hp} {id:Nat} {cs:List AV} (h1:¬id<1000) (h2:id<n0) (hg:get h id=some (.cells cs)):nrm n0 h 8 (.ref id 0 0 0) = .ref id 0 0 0:=by
 simp[nrm,h1,h2,hg]
def badR (l:List (Int×Int)):Nat->Bool
 |0=>match l[0]? with
  |some r=>decide (r.2<r.1)
  |none=>false
 |j+1=>match l[j+1]?,l[j]? with
  |some r,some p=>decide (r.2<r.1)||(decide (r.1<=p.2)||IntKind.wrap .i64 (r.1 - 1)==p.2)
  |_,_=>false
def badT (l:List ByteArray):Nat->Bool
 |0=>match l[0]? with
  |some t=>decide (8<t.size)
  |none=>false
 |j+1=>match l[j+1]?,l[j]? with
  |some t,some p=>decide (8<t.size)||!sless p t
  |_,_=>false
def rightS (x:S):Bool:=(List.range x.i.length).all (fun i=>!badR x.i i)&&(List.range x.s.length).all fun i=>!badT x.s i
section
variable {prog:Nat->Option IFn}
set_option maxHeartbeats 2000000 in
theorem p_rightS (h:prog 58=some F58) (x:S) (hi:x.i.length<=maxLen) (hs:x.s.length<=maxLen):Ans prog 58 [x.av] (.bI (rightS x)):=by
 refine Ans.of h rfl rfl (Wp.seq ?_);refine Wp.rgn (K:=0) (s':=⟨[(1,.ref 1000 0 0 0)],[(1000,.cells x.cs)],1128⟩) (fun n _=>by simp[S.av,S.cs,S.enc]) ?_;refine Wp.seq (Wp.seq ?_);refine Wp.rgn (K:=0) (s':=⟨[(1,.ref 1000 0 0 0),(8,.iv (.sl 2 (x.i.map rng))),(9,.nI x.i.length),(10,.nI 0)],[(1000,.cells x.cs)],1384⟩) (fun n _=>by simp[S.cs,S.enc]) ?_;refine Wp.block ?_;refine Wp.range x.i.length (fun i=>⟨[(1,.ref 1000 0 0 0),(8,.iv (.sl 2 (x.i.map rng))),(9,.nI x.i.length),(10,.nI i)],[(1000,.cells x.cs)],1384⟩) (fun i=>∀j,j<i->badR x.i j=false) (by simp[keepFr,get]) (by intro j hj;omega) ?_ ?_
 ·intro i hil hg;obtain⟨r,hr⟩:∃r,x.i[i]?=some r:=⟨_,List.getElem?_eq_getElem hil⟩;refine Wp.seq ?_;refine Wp.rgn (K:=0) (fun n _=>by simp[hil];rfl) ?_;refine Wp.seq (Wp.cond rfl (Wp.skip (Wp.seq (Wp.block (Wp.seq ?_)))));refine Wp.rgn (K:=0) (s':=⟨[(1,.ref 1000 0 0 0),(3,.nI i),(4,.ref 1640 0 0 0),(8,.iv (.sl 2 (x.i.map rng))),(9,.nI x.i.length),(10,.nI i)],[(1000,.cells x.cs),(1640,.cells [.nI r.1,.nI r.2])],1832⟩) (fun n _=>by
   simp[hr,rng]) ?_
  refine Wp.seq ?_;refine Wp.rgn (K:=0) (s':=⟨[(1,.ref 1000 0 0 0),(8,.iv (.sl 2 (x.i.map rng))),(9,.nI x.i.length),(10,.nI i),(48,.bI (badR x.i i))],[(1000,.cells x.cs),(1640,.cells [.nI r.1,.nI r.2])],4008⟩) (fun n _=>rgn_quiet' rfl (by
   cases i with
   |zero=>
    cases h1:decide (r.2<r.1)<;>simp[badR,hr,h1]
   |succ j=>
    obtain⟨p,hp⟩:∃p,x.i[j]?=some p:=⟨_,List.getElem?_eq_getElem (by omega)⟩;have e0:decide ((0:Int)<(j:Int)+1)=true:=decide_eq_true (by omega);have e1:IntKind.i64.wrap (j:Int)=(j:Int):=IntWalk.i64_in _ (by unfold maxLen at hi;omega);cases h1:decide (r.2<r.1)with
    |true=>simp[badR,hr,hp,h1]
    |false=>
     cases h2:decide (r.1<=p.2)with
     |true=>simp[S.cs,S.enc,badR,hr,hp,rng,h1,h2,e0,e1]
     |false=>
      cases h3:IntKind.wrap .i64 (r.1 - 1)==p.2<;>simp[S.cs,S.enc,badR,hr,hp,rng,h1,h2,h3,e0,e1])) ?_
  refine Wp.cond rfl ?_;cases hb:badR x.i i with
  |true=>
   refine Wp.seq ?_;refine Wp.rg ?_;refine Wp.ret ?_;have:rightS x=false:=by
    simp only[rightS,Bool.and_eq_false_iff];exact .inl (List.all_eq_false.2 ⟨i,by simpa using hil,by simp[hb]⟩)
   rw[this];rfl
  |false=>
   refine Wp.skip ?_;refine Wp.rg ?_;refine⟨?_,fun j hj=>?_⟩
   ·simp[again,keepFr,get,nrm_iv,nrm_ref_cells,nrmO,S.cs_nrm,wrap_succ hil hi]
   ·by_cases h:j=i
    ·subst h;exact hb
    ·exact hg j (by omega)
 ·intro hg;have hints:(List.range x.i.length).all (fun i=>!badR x.i i)=true:=by
   rw[List.all_eq_true];intro i hi;simp[hg i (by simpa using hi)]
  refine Wp.seq ?_;refine Wp.rg ?_;refine Wp.seq (Wp.cond rfl (Wp.exit ?_));simp only[Ex.then,Ex.inBlock,if_true];refine Wp.seq (Wp.seq ?_);refine Wp.rgn (K:=0) (s':=⟨[(1,.ref 1000 0 0 0),(51,.iv (.sl 1 (x.s.map st1))),(52,.nI x.s.length),(53,.nI 0)],[(1000,.cells x.cs)],1704⟩) (fun n _=>by simp[S.cs,S.enc]) ?_;refine Wp.block ?_;refine Wp.range x.s.length (fun i=>⟨[(1,.ref 1000 0 0 0),(51,.iv (.sl 1 (x.s.map st1))),(52,.nI x.s.length),(53,.nI i)],[(1000,.cells x.cs)],1704⟩) (fun i=>∀j,j<i->badT x.s j=false) (by simp[keepFr,get]) (by intro j hj;omega) ?_ ?_
  ·intro i hil hg;obtain⟨t,ht⟩:∃t,x.s[i]?=some t:=⟨_,List.getElem?_eq_getElem hil⟩;refine Wp.seq ?_;refine Wp.rgn (K:=0) (fun n _=>by simp[hil];rfl) ?_;refine Wp.seq (Wp.cond rfl (Wp.skip (Wp.seq (Wp.block (Wp.seq ?_)))));refine Wp.rgn (K:=0) (s':=⟨[(1,.ref 1000 0 0 0),(5,.nI i),(6,.iv (.str t)),(51,.iv (.sl 1 (x.s.map st1))),(52,.nI x.s.length),(53,.nI i)],[(1000,.cells x.cs)],2088⟩) (fun n _=>by
    simp[ht,st1]) ?_
   refine Wp.seq ?_;refine Wp.rgn (K:=0) (s':=⟨[(1,.ref 1000 0 0 0),(51,.iv (.sl 1 (x.s.map st1))),(52,.nI x.s.length),(53,.nI i),(74,.bI (badT x.s i))],[(1000,.cells x.cs)],3176⟩) (fun n _=>rgn_quiet' rfl (by
    have e2:decide ((8:Int)<(t.size:Int))=decide (8<t.size):=decide_eq_decide.2 (by omega);cases i with
    |zero=>cases h1:decide (8<t.size)<;>simp[badT,ht,h1,e2]
    |succ j=>
     obtain⟨p,hp⟩:∃p,x.s[j]?=some p:=⟨_,List.getElem?_eq_getElem (by omega)⟩;have e0:decide ((0:Int)<(j:Int)+1)=true:=decide_eq_true (by omega);have e1:IntKind.i64.wrap (j:Int)=(j:Int):=IntWalk.i64_in _ (by unfold maxLen at hs;omega);cases h1:decide (8<t.size)with
     |true=>simp[badT,ht,hp,h1,e2]
     |false=>simp[S.cs,S.enc,badT,ht,hp,st1,h1,e0,e1,e2])) ?_
   refine Wp.cond rfl ?_;cases hb:badT x.s i with
   |true=>
    refine Wp.seq ?_;refine Wp.rg ?_;refine Wp.ret ?_;have:rightS x=false:=by
     simp only[rightS,Bool.and_eq_false_iff];exact .inr (List.all_eq_false.2 ⟨i,by simpa using hil,by simp[hb]⟩)
    rw[this];rfl
   |false=>
    refine Wp.skip ?_;refine Wp.rg ?_;refine⟨?_,fun j hj=>?_⟩
    ·simp[again,keepFr,get,nrm_iv,nrm_ref_cells,nrmO,S.cs_nrm,wrap_succ hil hs]
    ·by_cases h:j=i
     ·subst h;exact hb
     ·exact hg j (by omega)
  ·intro hg2;refine Wp.seq ?_;refine Wp.rg ?_;refine Wp.seq (Wp.cond rfl (Wp.exit ?_));simp only[Ex.then,Ex.inBlock,if_true];refine Wp.seq ?_;refine Wp.rg ?_;refine Wp.ret ?_;have:rightS x=true:=by
    simp only[rightS,hints,Bool.true_and];rw[List.all_eq_true];intro i hi;simp[hg2 i (by simpa using hi)]
   rw[this];rfl
end
theorem B.enc_take (b:B):b.enc.take 16=b.enc:=rfl
theorem B.enc_len (b:B):b.enc.length=16:=rfl
theorem B.enc_cs (b:B):b.enc.map AV.iv=b.cs:=rfl
section
variable {prog:Nat->Option IFn}
end
section
variable {prog:Nat->Option IFn}
end
def B.fits (b:B):Prop:=∀i,i<4->(b.get i).i.length<=maxLen/\(b.get i).s.length<=maxLen
section
variable {prog:Nat->Option IFn}
end
section
variable {prog:Nat->Option IFn}
end
section
variable {prog:Nat->Option IFn}
def cmpI (a b:Int):Int:=if a<b then -1 else if b<a then 1 else 0
theorem p_isNaN (h:prog 63=some F63) (a:Int):Ans prog 63 [.nI a] (.bI false):=by
 refine Ans.of h rfl rfl (Wp.seq ?_);refine Wp.rg ?_;refine Wp.seq ?_;refine Wp.rgn (K:=0) (s':=⟨[(2,.bI false)],[],1320⟩) (fun n _=>by simp) ?_;exact Wp.ret rfl
theorem p_cmp (h63:prog 63=some F63) (h:prog 52=some F52) (a b:Int):Ans prog 52 [.nI a,.nI b] (.nI (cmpI a b)):=by
 obtain⟨K1,h1⟩:=p_isNaN h63 a;obtain⟨K2,h2⟩:=p_isNaN h63 b;refine Ans.of h rfl rfl (Wp.seq ?_);refine Wp.rg ?_;refine Wp.seq ?_;refine Wp.rgn (K:=K1) (fun n hn=>by simp[h1 n hn];rfl) ?_;refine Wp.seq ?_;refine Wp.rgn (K:=K2) (fun n hn=>by simp[h2 n hn];rfl) ?_;refine Wp.seq (Wp.seq ?_);refine Wp.rg ?_;refine Wp.cond rfl (Wp.skip (Wp.seq (Wp.seq ?_)));refine Wp.rg ?_;refine Wp.cond rfl (Wp.skip (Wp.seq (Wp.seq ?_)));refine Wp.rg ?_;refine Wp.cond rfl ?_;unfold cmpI;cases h3:decide (a<b)with
 |true=>
  refine Wp.seq ?_;refine Wp.rg ?_;refine Wp.ret ?_;rw[if_pos (of_decide_eq_true h3)];rfl
 |false=>
  refine Wp.skip (Wp.seq (Wp.seq ?_));refine Wp.rg ?_;refine Wp.cond rfl ?_;rw[if_neg (of_decide_eq_false h3)];cases h4:decide (b<a)with
  |true=>
   refine Wp.seq ?_;refine Wp.rg ?_;refine Wp.ret ?_;rw[if_pos (of_decide_eq_true h4)];rfl
  |false=>
   refine Wp.skip (Wp.seq ?_);refine Wp.rg ?_;refine Wp.ret ?_;rw[if_neg (of_decide_eq_false h4)];rfl
theorem p_less (h63:prog 63=some F63) (h52:prog 52=some F52) (h:prog 51=some F51) (p q:Int×Int) :
  Ans prog 51 [.agg [.nI p.1,.nI p.2],.agg [.nI q.1,.nI q.2]] (.nI (cmpI p.1 q.1)):=by
 obtain⟨K1,h1⟩:=p_cmp h63 h52 p.1 q.1;refine Ans.of h rfl rfl (Wp.seq ?_);refine Wp.rg ?_;refine Wp.seq ?_;refine Wp.rgn (K:=K1) (fun n hn=>by simp[h1 n hn];rfl) ?_;exact Wp.ret rfl
end
end Arb
namespace Arb
open Go
def B.put (b:B) (i:Nat) (x:S):B:=
 match i with
 |0=>⟨x,b.s1,b.s2,b.s3⟩
 |1=>⟨b.s0,x,b.s2,b.s3⟩
 |2=>⟨b.s0,b.s1,x,b.s3⟩
 |_=>⟨b.s0,b.s1,b.s2,x⟩
theorem B.put_cs (b:B) {i:Nat} (h:i<4) (x:S):splice b.cs (i*4) [.iv (.bool x.a),.iv (.sl 2 (x.i.map rng)),.iv (.bool x.c),.iv (.sl 1 (x.s.map st1))]=(b.put i x).cs:=by
 match i,h with
 |0,_=>rfl
 |1,_=>rfl
 |2,_=>rfl
 |3,_=>rfl
theorem B.put_all (c:B) (l:List AV) (h:l.length=16):splice l 0 c.cs=c.cs:=by
 unfold splice;simp only[List.take_zero,List.nil_append,B.cs_len,Nat.zero_add];rw[List.drop_of_length_le (by omega),List.append_nil]
section
variable {prog:Nat->Option IFn}
set_option maxHeartbeats 1000000 in
theorem p_with (h:prog 19=some F19) (b:B) (x:S) {i:Nat} (hi:i<4):Ans prog 19 [b.av,.iv (.int .i64 i),x.av] (b.put i x).av:=by
 have hi':(i:Int)<4:=by omega
 have hm:i*4+4<=16:=by omega
 refine Ans.of h rfl rfl (Wp.seq ?_);refine Wp.rgn (K:=0) (fun n _=>by simp[evalRgn,Option.map_some,evalOps,oo,om,ol,oa,oc,ob,on,og,od,oe,ci,cb,step,wants,osem,M.run_bind,M.mapL,M.run,M.ok,M.fresh,M.write,M.look,M.lift,putD,Arb.set,ev,Arb.get,keepFr,bin,intBin,strBin,mk,params,cellsM,load,obRead,fadr,fld,isl,iarr,xarr,idx,len,valid,slc,bound,store,splice,nilc,un,eqs,eq0,evalFeet,footOf,M.foot,orderOk,apartAll,apart1,clash,meets,callM,fcallM,callee,fz1,flat,flat1,flat0,flatI,Option.bind_some,putAll,M.bind,B.av,B.cs_nilc,S.av];rfl) ?_;refine Wp.seq (Wp.seq ?_);refine Wp.rgn (K:=0) (fun n _=>by simp[evalRgn,Option.map_some,evalOps,oo,om,ol,oa,oc,ob,on,og,od,oe,ci,cb,step,wants,osem,M.run_bind,M.mapL,M.run,M.ok,M.fresh,M.write,M.look,M.lift,putD,Arb.set,ev,Arb.get,keepFr,bin,intBin,strBin,mk,params,cellsM,load,obRead,fadr,fld,isl,iarr,xarr,idx,len,valid,slc,bound,store,splice,nilc,un,eqs,eq0,evalFeet,footOf,M.foot,orderOk,apartAll,apart1,clash,meets,callM,fcallM,callee,fz1,fzC,fz,flat,flat1,flat0,flatI,Option.bind_some,putAll,M.bind,hi'];rfl) ?_
 refine Wp.cond rfl ?_;refine Wp.rgn (K:=0) (fun n _=>by
  simp only[evalRgn,evalOps,oo,om,ol,oa,oc,ob,on,og,od,oe,ci,cb,step,wants,osem,M.run_bind,M.run,M.ok,M.look,M.write,M.lift,putD,Arb.set,ev,Arb.get,keepFr,load,obRead,mk,iarr,idx,valid,store,cellsM];simp[Arb.get,Arb.set,M.run,M.ok,M.look,M.write,M.lift,M.run_bind,M.bind,hi',nilc,B.cs_len,hm,B.put_cs b hi x,keepFr,mk];rfl) ?_
 simp only[Ex.then];refine Wp.seq ?_;refine Wp.rgn (K:=0) (fun n _=>by
  simp[evalRgn,Option.map_some,evalOps,oo,om,ol,oa,oc,ob,on,og,od,oe,ci,cb,step,wants,osem,M.run_bind,M.mapL,M.run,M.ok,M.fresh,M.write,M.look,M.lift,putD,Arb.set,ev,Arb.get,keepFr,bin,intBin,strBin,mk,params,cellsM,load,obRead,fadr,fld,isl,iarr,xarr,idx,len,valid,slc,bound,store,nilc,un,eqs,eq0,evalFeet,footOf,M.foot,orderOk,apartAll,apart1,clash,meets,callM,fcallM,callee,fz1,flat,flat1,flat0,flatI,Option.bind_some,putAll,M.bind,B.cs_16,B.cs_len,B.cs_nilc,B.put_all];rfl) ?_
 refine Wp.ret ?_;simp[FinS,F19,resAll,resM,outA,load,obRead,mk,ev,get,M.look,M.bind,M.run,M.run_bind,M.ok,M.lift,shut,fzA,fz1,B.cs_16,B.cs_len,B.cs_fzC,B.av]
end
end Arb
namespace Arb
open Go
attribute [local simp] evalRgn Option.map_some evalOps step wants osem M.run_bind M.mapL M.run M.ok M.fresh M.write M.look M.lift putD Arb.set ev Arb.get keepFr bin intBin strBin mk params cellsM load obRead fadr fld isl iarr xarr idx len valid slc bound store splice nilc un eqs eq0 evalFeet footOf M.foot orderOk apartAll apart1 clash meets callM fcallM callee fz1 fzC fz flat flat1 flat0 flatI Option.bind_some putAll M.bind oo om ol oa oc ob on og od oe ci cb
section
variable {prog:Nat->Option IFn}
end
section
variable {prog:Nat->Option IFn}
end
def idxFrom (t:ByteArray):List ByteArray->Nat->Int
 |[],_=>-1
 |x::r,k=>if t=x then(k:Int) else idxFrom t r (k+1)
def hasT (l:List ByteArray) (t:ByteArray):Bool:=decide (0<=idxFrom t l 0)
theorem drop_cons {α:Type} {l:List α} {i:Nat} {x:α} (h:l[i]?=some x):l.drop i=x::l.drop (i+1):=by
 obtain⟨h1,h2⟩:=List.getElem?_eq_some_iff.1 h;rw[List.drop_eq_getElem_cons h1,h2]
section
variable {prog:Nat->Option IFn}
theorem p_index (h:prog 64=some F64) (l:List ByteArray) (t:ByteArray) (hl:l.length<=maxLen):Ans prog 64 [.iv (.sl 1 (l.map st1)),.iv (.str t)] (.nI (idxFrom t l 0)):=by
 refine Ans.of h rfl rfl (Wp.seq ?_);refine Wp.rg ?_;refine Wp.seq (Wp.seq ?_);refine Wp.rg ?_;refine Wp.block ?_;refine Wp.range l.length (fun i=>⟨[(0,.iv (.sl 1 (l.map st1))),(1,.iv (.str t)),(7,.nI l.length),(8,.nI i)],[],1256⟩) (fun i=>idxFrom t (l.drop i) i=idxFrom t l 0) (by simp[keepFr,get]) rfl ?_ ?_
 ·intro i hi hg;obtain⟨x,hx⟩:∃x,l[i]?=some x:=⟨_,List.getElem?_eq_getElem hi⟩;rw[drop_cons hx,idxFrom]at hg;refine Wp.seq ?_;refine Wp.rgn (K:=0) (fun n _=>by simp[hi];rfl) ?_;refine Wp.seq (Wp.cond rfl (Wp.skip (Wp.seq (Wp.block (Wp.seq ?_)))));refine Wp.rg ?_;refine Wp.seq ?_;refine Wp.rgn (K:=0) (s':=⟨[(0,.iv (.sl 1 (l.map st1))),(1,.iv (.str t)),(5,.nI i),(7,.nI l.length),(8,.nI i),(16,.bI (t==x))],[],1832⟩) (fun n _=>by simp[hx,st1]) ?_;refine Wp.cond rfl ?_;cases hb:t==x with
  |true=>
   refine Wp.seq ?_;refine Wp.rg ?_;refine Wp.ret ?_;rw[ba_beq,decide_eq_true_eq]at hb;rw[if_pos hb]at hg;rw[<-hg];rfl
  |false=>
   refine Wp.skip ?_;refine Wp.rg ?_;rw[ba_beq,decide_eq_false_iff_not]at hb;rw[if_neg hb]at hg;exact⟨by simp[again,keepFr,get,nrm,wrap_succ hi hl],hg⟩
 ·intro hg;rw[List.drop_length]at hg;refine Wp.seq ?_;refine Wp.rg ?_;refine Wp.seq (Wp.cond rfl (Wp.exit ?_));simp only[Ex.then,Ex.inBlock,if_true];refine Wp.seq ?_;refine Wp.rg ?_;refine Wp.ret ?_;rw[<-hg];rfl
theorem p_contains (h64:prog 64=some F64) (h:prog 53=some F53) (l:List ByteArray) (t:ByteArray) (hl:l.length<=maxLen):Ans prog 53 [.iv (.sl 1 (l.map st1)),.iv (.str t)] (.bI (hasT l t)):=by
 obtain⟨K,hK⟩:=p_index h64 l t hl;refine Ans.of h rfl rfl (Wp.seq ?_);refine Wp.rg ?_;refine Wp.seq ?_;refine Wp.rgn (K:=K) (fun n hn=>by simp[hK n hn];rfl) ?_;exact Wp.ret rfl
end
def pickS (a b:List ByteArray) (inn:Bool):List ByteArray:=a.filter fun s=>hasT b s==inn
theorem take_succ_filter {α:Type} {l:List α} {i:Nat} {x:α} {f:α->Bool} (hx:l[i]?=some x):(l.take (i+1)).filter f=(l.take i).filter f++if f x then[x] else[]:=by
 rw[List.take_add_one,hx,List.filter_append];congr 1;simp only[Option.toList_some,List.filter_cons,List.filter_nil]
theorem filter_take_le {α:Type} (l:List α) (i:Nat) (f:α->Bool):((l.take i).filter f).length<=l.length:=
 Nat.le_trans (List.length_filter_le _ _) (by rw[List.length_take];omega)
section
variable {prog:Nat->Option IFn}
set_option maxHeartbeats 1000000 in
theorem p_pick (h64:prog 64=some F64) (h53:prog 53=some F53) (h:prog 39=some F39) (a b:List ByteArray) (inn:Bool) (ha:a.length<=1000) (hb:b.length<=maxLen) :
  Ans prog 39 [.iv (.sl 1 (a.map st1)),.iv (.sl 1 (b.map st1)),.bI inn] (.iv (.sl 1 ((pickS a b inn).map st1))):=by
 have ha':a.length<=maxLen:=by unfold maxLen;omega
 refine Ans.of h rfl rfl (Wp.seq ?_);refine Wp.rg ?_;refine Wp.seq (Wp.seq ?_);refine Wp.rg ?_;refine Wp.block ?_;refine Wp.range a.length (fun i=>⟨[(1,.iv (.sl 1 (b.map st1))),(2,.bI inn),(6,.own 1000 0 (pickS (a.take i) b inn).length 0),(9,.iv (.sl 1 (a.map st1))),(10,.nI a.length),(11,.nI i)],
  [(1000,.buf 0 1 ((pickS (a.take i) b inn).map st1))],1256⟩) (fun _=>True) (by simp[keepFr,get,pickS]) trivial ?_ ?_
 ·intro i hi _;obtain⟨x,hx⟩:∃x,a[i]?=some x:=⟨_,List.getElem?_eq_getElem hi⟩;have hlen:(pickS (a.take i) b inn).length<=a.length:=filter_take_le _ _ _;generalize hacc:pickS (a.take i) b inn=acc at hlen;have hnext:pickS (a.take (i+1)) b inn=acc++if hasT b x==inn then[x] else[]:=by rw[<-hacc];exact take_succ_filter hx
  refine Wp.seq ?_;refine Wp.rgn (K:=0) (fun n _=>by simp[hi];rfl) ?_;refine Wp.seq (Wp.cond rfl (Wp.skip (Wp.seq (Wp.block (Wp.seq ?_)))));refine Wp.rgn (K:=0) (fun n _=>by simp[hx,st1];rfl) ?_;refine Wp.seq ?_;obtain⟨K,hK⟩:=p_contains h64 h53 b x hb;refine Wp.rgn (K:=K) (fun n hn=>by simp[hK n hn];rfl) ?_;refine Wp.cond rfl ?_;rw[hnext];cases hp:hasT b x==inn with
  |true=>
   refine Wp.rgn (K:=0) (fun n _=>by
    simp[setAll,app,elems,roomy,show acc.length+1<=1073741824 by omega];rfl) ?_
   simp only[Ex.then,Ex.inBlock];refine Wp.rg ?_;refine⟨?_,trivial⟩;simp[again,keepFr,get,nrm,nrmO,wrap_succ hi ha',st1,List.take_of_length_le]
  |false=>
   refine Wp.skip ?_;simp only[Ex.then,Ex.inBlock];refine Wp.rg ?_;exact⟨by simp[again,keepFr,get,nrm,nrmO,wrap_succ hi ha'],trivial⟩
 ·intro _;refine Wp.seq ?_;refine Wp.rg ?_;refine Wp.seq (Wp.cond rfl (Wp.exit ?_));simp only[Ex.then,Ex.inBlock,if_true];refine Wp.seq ?_;refine Wp.rg ?_;refine Wp.ret ?_;simp[FinS,F39,resAll,resM,outA,ev,get,M.look,M.bind,M.run,M.ok,shut,fzA,fz1,fzC,fz,M.write,List.take_of_length_le]
end
def lenTab:ByteArray:=match F70.body with
 |.seq _ (.seq _ (.seq _ (.seq _ (.seq (.rgn _ [_,_,_,⟨_,.xstr (.c (.str s)) _,_,_⟩,_,_,_] _) _))))=>s
 |_=>⟨#[]⟩
theorem lenTab_size:lenTab.size=256:=by kernel_rfl
section
variable {prog:Nat->Option IFn}
set_option maxRecDepth 20000 in
set_option maxHeartbeats 1000000 in
theorem p_len64 (h:prog 70=some F70) {n:Nat} (hn:n<256):∃v:Int,Ans prog 70 [.iv (.int .u64 n)] (.nI v):=by
 obtain⟨b,hb⟩:∃b,lenTab[n]?=some b:=⟨_,getElem?_pos lenTab n (by rw[lenTab_size];exact hn)⟩;refine⟨IntKind.i64.wrap (0+IntKind.i64.wrap (b.toNat:Int)),?_⟩;have c1:decide ((4294967296:Int)<=n)=false:=decide_eq_false (by omega);have c2:decide ((65536:Int)<=n)=false:=decide_eq_false (by omega);have c3:decide ((256:Int)<=n)=false:=decide_eq_false (by omega);have c4:IntKind.u8.wrap (n:Int)=n:=by rw[IntKind.wrap_u8];omega
 refine Ans.of h rfl rfl (Wp.seq ?_);refine Wp.rg ?_;refine Wp.seq (Wp.seq ?_);refine Wp.rgn (K:=0) (s':=⟨[(0,.iv (.int .u64 n)),(2,.nI 0),(4,.bI false)],[],1192⟩) (fun _ _=>by simp[c1]) ?_;refine Wp.cond rfl (Wp.skip (Wp.seq (Wp.seq ?_)));refine Wp.rgn (K:=0) (s':=⟨[(0,.iv (.int .u64 n)),(2,.nI 0),(8,.bI false)],[],1320⟩) (fun _ _=>by simp[c2]) ?_;refine Wp.cond rfl (Wp.skip (Wp.seq (Wp.seq ?_)));refine Wp.rgn (K:=0) (s':=⟨[(0,.iv (.int .u64 n)),(2,.nI 0),(14,.bI false)],[],1448⟩) (fun _ _=>by simp[c3]) ?_;refine Wp.cond rfl (Wp.skip (Wp.seq ?_));refine Wp.rgn (K:=0) (s':=⟨[(2,.nI (IntKind.i64.wrap (0+IntKind.i64.wrap (b.toNat:Int))))],[],1896⟩) (fun _ _=>by
  have hx:xstr (.iv (.str lenTab)) (.iv (.int .u8 n))=M.ret (.iv (.int .u8 b.toNat)):=by
   simp only[xstr,Int.toNat_natCast,hb];rfl
  show evalRgn _ false [⟨some 19,.mov (.t 2),none,[]⟩,⟨some 20,.mov (.t 0),none,[]⟩,⟨some 21,.cvi .u8 (.t 20),none,[]⟩,⟨some 22,.xstr (.c (.str lenTab)) (.t 21),none,[]⟩,⟨some 23,.cvi .i64 (.t 22),none,[]⟩,⟨some 24,.bin .add 0 (.t 19) (.t 23),none,[]⟩,⟨some 2,.mov (.t 24),none,[]⟩] [2] _=_
  simp[c4,hx]) ?_
 exact Wp.ret rfl
theorem p_len (h70:prog 70=some F70) (h:prog 62=some F62) {n:Nat} (hn:n<256):∃v:Int,Ans prog 62 [.iv (.int .u64 n)] (.nI v):=by
 obtain⟨v,K,hK⟩:=p_len64 h70 hn;refine⟨v,Ans.of h rfl rfl (Wp.seq ?_)⟩;refine Wp.rg ?_;refine Wp.seq (Wp.cond (t:=false) rfl (Wp.skip (Wp.seq ?_)));refine Wp.rgn (K:=K) (s':=⟨[(2,.nI v)],[],1256⟩) (fun n hn=>by simp[hK n hn]) ?_;exact Wp.ret rfl
end
section
variable {α:Type} (lt:α->α->Bool)
def sink:Nat->List α->List α
 |0,l=>l
 |j+1,l=>match l[j+1]?,l[j]? with
  |some y,some x=>if lt y x then sink j ((l.set (j+1) x).set j y) else l
  |_,_=>l
def sinks (l:List α):Nat->List α
 |0=>l
 |k+1=>sink lt (k+1) (sinks l k)
def isort (l:List α):List α:=sinks lt l (l.length - 1)
theorem sink_len:∀(j:Nat) (l:List α),(sink lt j l).length=l.length
 |0,_=>rfl
 |j+1,l=>by
  unfold sink;split
  ·split
   ·rw[sink_len j];simp
   ·rfl
  ·rfl
theorem sinks_len (l:List α):∀k,(sinks lt l k).length=l.length
 |0=>rfl
 |k+1=>by rw[sinks,sink_len,sinks_len l k]
end
def ltR (x y:Int×Int):Bool:=decide (cmpI x.1 y.1<0)
section
variable {prog:Nat->Option IFn}
set_option maxHeartbeats 2000000 in
theorem p_isortR (h63:prog 63=some F63) (h52:prog 52=some F52) (h51:prog 51=some F51) (h:prog 68=some F68) (l:List (Int×Int)) (hl:l.length<=maxLen) :
  Ev prog 68 [.own 0 0 l.length 0,.nI 0,.nI l.length,.iv (.fn 51 [])] [(0,.buf 0 2 (l.map rng))] (.tup [],[(0,.buf 0 2 ((isort ltR l).map rng))]):=by
 refine Ev.of h rfl rfl (Wp.seq ?_);refine Wp.rg ?_;refine Wp.block ?_;refine Wp.range (l.length - 1) (fun i=>⟨[(0,.own 0 0 l.length 0),(1,.nI 0),(2,.nI l.length),(3,.iv (.fn 51 [])),(8,.nI ((i:Int)+1))],[(0,.buf 0 2 ((sinks ltR l i).map rng))],1192⟩) (fun _=>True) (by simp[keepFr,get,sinks];rfl) trivial ?_ ?_
 ·intro i hi _;have hlt:(i:Int)+1<l.length:=by omega
  refine Wp.seq (Wp.seq ?_);refine Wp.rgn (K:=0) (s':=⟨[(0,.own 0 0 l.length 0),(1,.nI 0),(2,.nI l.length),(3,.iv (.fn 51 [])),(8,.nI ((i:Int)+1)),(14,.bI true)],[(0,.buf 0 2 ((sinks ltR l i).map rng))],1384⟩) (fun n _=>by simp[hlt]) ?_;refine Wp.cond rfl (Wp.skip (Wp.seq (Wp.block (Wp.seq ?_))));refine Wp.rg ?_;refine Wp.block ?_;refine Wp.loop (fun m s1=>∃l',sink ltR m l'=sinks ltR l (i+1)/\l'.length=l.length/\m<=i+1/\s1=⟨[(0,.own 0 0 l.length 0),(1,.nI 0),(2,.nI l.length),(3,.iv (.fn 51 [])),(8,.nI ((i:Int)+1)),(9,.nI m)],[(0,.buf 0 2 (l'.map rng))],1512⟩) (m:=i+1) ⟨sinks ltR l i,rfl,sinks_len _ _ _,Nat.le_refl _,by simp[keepFr,get]⟩ ?_
  rintro m s1 ⟨l',h1,h2,h3,rfl⟩;have hw1:IntKind.wrap .i64 ((i:Int)+1+1)=(i:Int)+1+1:=IntWalk.i64_in _ (by unfold maxLen at hl;omega);refine Wp.seq (Wp.seq ?_);cases m with
  |zero=>
   refine Wp.rgn (K:=0) (s':=⟨[(0,.own 0 0 l.length 0),(1,.nI 0),(2,.nI l.length),(3,.iv (.fn 51 [])),(8,.nI ((i:Int)+1)),(9,.nI 0),(34,.bI false)],[(0,.buf 0 2 (l'.map rng))],2600⟩) (fun n _=>rgn_quiet' rfl (by simp)) ?_;refine Wp.cond rfl (Wp.exit ?_);simp only[Ex.then,Ex.inBlock,if_true];have:l'=sinks ltR l (i+1):=h1;subst this;refine Wp.rg ?_;exact⟨by simp[again,keepFr,get,nrm,nrmO,hw1],trivial⟩
  |succ j=>
   obtain⟨y,hy⟩:∃y,l'[j+1]?=some y:=⟨_,List.getElem?_eq_getElem (by omega)⟩;obtain⟨x,hx⟩:∃x,l'[j]?=some x:=⟨_,List.getElem?_eq_getElem (by omega)⟩;obtain⟨K,hK⟩:=p_less h63 h52 h51 y x;have hy':l'[j+1]'(by omega)=y:=(List.getElem?_eq_some_iff.1 hy).2;have hx':l'[j]'(by omega)=x:=(List.getElem?_eq_some_iff.1 hx).2;have hj1:j+1<l.length:=by omega
   have hj0:j<l.length:=by omega
   have hj2:(0:Int)<=(j:Int)+1:=by omega
   have hj3:(j:Int)+1<l.length:=by omega
   have hj4:(j:Int)<l.length:=by omega
   have hj5:(0:Int)<(j:Int)+1:=by omega
   have hw:IntKind.wrap .i64 (j:Int)=j:=IntWalk.i64_in _ (by unfold maxLen at hl;omega);refine Wp.rgn (K:=K) (s':=⟨[(0,.own 0 0 l.length 0),(1,.nI 0),(2,.nI l.length),(3,.iv (.fn 51 [])),(8,.nI ((i:Int)+1)),(9,.nI ((j+1:Nat):Int)),(34,.bI (ltR y x))],[(0,.buf 0 2 (l'.map rng))],2600⟩) (fun n hn=>rgn_quiet' rfl (by
    have hc:=hK n hn;simp[hj1,hj0,hj2,hj3,hj4,hj5,hw,hy,hx,rng,hc,ltR])) ?_
   refine Wp.cond rfl ?_;rw[sink,hy,hx]at h1;simp only at h1;cases hb:ltR y x with
   |false=>
    rw[hb,if_neg Bool.false_ne_true]at h1;subst h1;refine Wp.exit ?_;simp only[Ex.then,Ex.inBlock,if_true];refine Wp.rg ?_;exact⟨by simp[again,keepFr,get,nrm,nrmO,hw1],trivial⟩
   |true=>
    rw[hb,if_pos rfl]at h1;refine Wp.skip (Wp.seq (Wp.block ?_));refine Wp.rgn (K:=0) (s':=⟨[(0,.own 0 0 l.length 0),(1,.nI 0),(2,.nI l.length),(3,.iv (.fn 51 [])),(8,.nI ((i:Int)+1)),(9,.nI ((j+1:Nat):Int))],[(0,.buf 0 2 (((l'.set (j+1) x).set j y).map rng))],3752⟩) (fun n hn=>by
     simp[hj1,hj0,hj2,hj3,hj4,hj5,hw,hy,hx,rng,h2,hx',hy']) ?_
    simp only[Ex.then,Ex.inBlock];refine Wp.rg ?_;refine⟨j,by omega,_,h1,by simp[h2],by omega,?_⟩;simp[again,keepFr,get,nrm,nrmO,hw]
 ·intro _;have hlt:¬((l.length - 1:Nat):Int)+1<l.length:=by omega
  refine Wp.seq (Wp.seq ?_);refine Wp.rgn (K:=0) (s':=⟨[(0,.own 0 0 l.length 0),(1,.nI 0),(2,.nI l.length),(3,.iv (.fn 51 [])),(8,.nI (((l.length - 1:Nat):Int)+1)),(14,.bI false)],[(0,.buf 0 2 ((isort ltR l).map rng))],1384⟩) (fun n _=>by simp[isort];omega) ?_;exact Wp.cond rfl (Wp.exit rfl)
end
def ltT (x y:ByteArray):Bool:=sless x y
section
variable {prog:Nat->Option IFn}
theorem p_isNaNT (h:prog 88=some F88) (a:ByteArray):Ans prog 88 [.iv (.str a)] (.bI false):=by
 refine Ans.of h rfl rfl (Wp.seq ?_);refine Wp.rg ?_;refine Wp.seq ?_;refine Wp.rgn (K:=0) (s':=⟨[(2,.bI false)],[],1320⟩) (fun n _=>by simp[ba_beq]) ?_;exact Wp.ret rfl
theorem p_lessT (h88:prog 88=some F88) (h:prog 72=some F72) (a b:ByteArray):Ans prog 72 [.iv (.str a),.iv (.str b)] (.bI (ltT a b)):=by
 obtain⟨K1,h1⟩:=p_isNaNT h88 a;refine Ans.of h rfl rfl (Wp.seq ?_);refine Wp.rg ?_;refine Wp.seq ?_;refine Wp.rgn (K:=K1) (fun n hn=>by simp[h1 n hn];rfl) ?_;exact Wp.ret rfl
set_option maxHeartbeats 2000000 in
theorem p_isortT (h88:prog 88=some F88) (h72:prog 72=some F72) (h:prog 71=some F71) (v0:Nat) (l:List ByteArray) (hl:l.length<=maxLen) :
  Ev prog 71 [.own 0 0 l.length v0,.nI 0,.nI l.length] [(0,.buf v0 1 (l.map st1))] (.tup [],[(0,.buf v0 1 ((isort ltT l).map st1))]):=by
 refine Ev.of h rfl rfl (Wp.seq ?_);refine Wp.rg ?_;refine Wp.block ?_;refine Wp.range (l.length - 1) (fun i=>⟨[(0,.own 0 0 l.length v0),(1,.nI 0),(2,.nI l.length),(6,.nI ((i:Int)+1))],[(0,.buf v0 1 ((sinks ltT l i).map st1))],1192⟩) (fun _=>True) (by simp[keepFr,get,sinks];rfl) trivial ?_ ?_
 ·intro i hi _;have hlt:(i:Int)+1<l.length:=by omega
  refine Wp.seq (Wp.seq ?_);refine Wp.rgn (K:=0) (s':=⟨[(0,.own 0 0 l.length v0),(1,.nI 0),(2,.nI l.length),(6,.nI ((i:Int)+1)),(12,.bI true)],[(0,.buf v0 1 ((sinks ltT l i).map st1))],1384⟩) (fun n _=>by simp[hlt]) ?_;refine Wp.cond rfl (Wp.skip (Wp.seq (Wp.block (Wp.seq ?_))));refine Wp.rg ?_;refine Wp.block ?_;refine Wp.loop (fun m s1=>∃l',sink ltT m l'=sinks ltT l (i+1)/\l'.length=l.length/\m<=i+1/\s1=⟨[(0,.own 0 0 l.length v0),(1,.nI 0),(2,.nI l.length),(6,.nI ((i:Int)+1)),(7,.nI m)],[(0,.buf v0 1 (l'.map st1))],1512⟩) (m:=i+1) ⟨sinks ltT l i,rfl,sinks_len _ _ _,Nat.le_refl _,by simp[keepFr,get]⟩ ?_
  rintro m s1 ⟨l',h1,h2,h3,rfl⟩;have hw1:IntKind.wrap .i64 ((i:Int)+1+1)=(i:Int)+1+1:=IntWalk.i64_in _ (by unfold maxLen at hl;omega);refine Wp.seq (Wp.seq ?_);cases m with
  |zero=>
   refine Wp.rgn (K:=0) (s':=⟨[(0,.own 0 0 l.length v0),(1,.nI 0),(2,.nI l.length),(6,.nI ((i:Int)+1)),(7,.nI 0),(30,.bI false)],[(0,.buf v0 1 (l'.map st1))],2472⟩) (fun n _=>rgn_quiet' rfl (by simp)) ?_;refine Wp.cond rfl (Wp.exit ?_);simp only[Ex.then,Ex.inBlock,if_true];have:l'=sinks ltT l (i+1):=h1;subst this;refine Wp.rg ?_;exact⟨by simp[again,keepFr,get,nrm,nrmO,hw1],trivial⟩
  |succ j=>
   obtain⟨y,hy⟩:∃y,l'[j+1]?=some y:=⟨_,List.getElem?_eq_getElem (by omega)⟩;obtain⟨x,hx⟩:∃x,l'[j]?=some x:=⟨_,List.getElem?_eq_getElem (by omega)⟩;obtain⟨K,hK⟩:=p_lessT h88 h72 y x;have hy':l'[j+1]'(by omega)=y:=(List.getElem?_eq_some_iff.1 hy).2;have hx':l'[j]'(by omega)=x:=(List.getElem?_eq_some_iff.1 hx).2;have hj1:j+1<l.length:=by omega
   have hj0:j<l.length:=by omega
   have hj2:(0:Int)<=(j:Int)+1:=by omega
   have hj3:(j:Int)+1<l.length:=by omega
   have hj4:(j:Int)<l.length:=by omega
   have hj5:(0:Int)<(j:Int)+1:=by omega
   have hw:IntKind.wrap .i64 (j:Int)=j:=IntWalk.i64_in _ (by unfold maxLen at hl;omega);refine Wp.rgn (K:=K) (s':=⟨[(0,.own 0 0 l.length v0),(1,.nI 0),(2,.nI l.length),(6,.nI ((i:Int)+1)),(7,.nI ((j+1:Nat):Int)),(30,.bI (ltT y x))],[(0,.buf v0 1 (l'.map st1))],2472⟩) (fun n hn=>rgn_quiet' rfl (by
    have hc:=hK n hn;simp[hj1,hj0,hj2,hj3,hj4,hj5,hw,hy,hx,st1,hc])) ?_
   refine Wp.cond rfl ?_;rw[sink,hy,hx]at h1;simp only at h1;cases hb:ltT y x with
   |false=>
    rw[hb,if_neg Bool.false_ne_true]at h1;subst h1;refine Wp.exit ?_;simp only[Ex.then,Ex.inBlock,if_true];refine Wp.rg ?_;exact⟨by simp[again,keepFr,get,nrm,nrmO,hw1],trivial⟩
   |true=>
    rw[hb,if_pos rfl]at h1;refine Wp.skip (Wp.seq (Wp.block ?_));refine Wp.rgn (K:=0) (s':=⟨[(0,.own 0 0 l.length v0),(1,.nI 0),(2,.nI l.length),(6,.nI ((i:Int)+1)),(7,.nI ((j+1:Nat):Int))],[(0,.buf v0 1 (((l'.set (j+1) x).set j y).map st1))],3624⟩) (fun n hn=>by
     simp[hj1,hj0,hj2,hj3,hj4,hj5,hw,hy,hx,st1,h2,hx',hy']) ?_
    simp only[Ex.then,Ex.inBlock];refine Wp.rg ?_;refine⟨j,by omega,_,h1,by simp[h2],by omega,?_⟩;simp[again,keepFr,get,nrm,nrmO,hw]
 ·intro _;have hlt:¬((l.length - 1:Nat):Int)+1<l.length:=by omega
  refine Wp.seq (Wp.seq ?_);refine Wp.rgn (K:=0) (s':=⟨[(0,.own 0 0 l.length v0),(1,.nI 0),(2,.nI l.length),(6,.nI (((l.length - 1:Nat):Int)+1)),(12,.bI false)],[(0,.buf v0 1 ((isort ltT l).map st1))],1384⟩) (fun n _=>by simp[isort];omega) ?_;exact Wp.cond rfl (Wp.exit rfl)
end
structure Lib2 (prog:Nat->Option IFn):Prop where
 h50:prog 50=some G50
 h51:prog 51=some F51
 h52:prog 52=some F52
 h55:prog 55=some G55
 h61:prog 61=some F61
 h62:prog 62=some F62
 h63:prog 63=some F63
 h65:prog 65=some F65
 h68:prog 68=some F68
 h70:prog 70=some F70
 h71:prog 71=some F71
 h72:prog 72=some F72
 h88:prog 88=some F88
section
variable {prog:Nat->Option IFn}
theorem p_pdqR (H:Lib2 prog) (l:List (Int×Int)) (hl:l.length<=12) (v:Int) :
  Ev prog 61 [.own 0 0 l.length 0,.nI 0,.nI l.length,.nI v,.iv (.fn 51 [])] [(0,.buf 0 2 (l.map rng))] (.tup [],[(0,.buf 0 2 ((isort ltR l).map rng))]):=by
 obtain⟨K,hK⟩:=p_isortR H.h63 H.h52 H.h51 H.h68 l (by unfold maxLen;omega);have hl':(l.length:Int)<=12:=by omega
 have hw:IntKind.wrap .i64 (l.length:Int)=l.length:=IntWalk.i64_in _ (by omega);refine Ev.of H.h61 rfl rfl (Wp.seq ?_);refine Wp.rg ?_;refine Wp.seq ?_;refine Wp.rg ?_;refine Wp.block ?_;refine Wp.loop (fun _ s1=>s1=⟨[(0,.own 0 0 l.length 0),(1,.nI 0),(2,.nI l.length),(3,.nI v),(4,.iv (.fn 51 [])),(10,.bI true),(11,.bI true)],[(0,.buf 0 2 (l.map rng))],1128⟩) (m:=0) (by simp[keepFr,get]) ?_;rintro m s1 rfl;refine Wp.block (Wp.seq ?_);refine Wp.rgn (K:=0) (fun n _=>by simp[hw];rfl) ?_;refine Wp.seq (Wp.seq ?_);refine Wp.rgn (K:=0) (s':=⟨[(0,.own 0 0 l.length 0),(1,.nI 0),(2,.nI l.length),(3,.nI v),(4,.iv (.fn 51 [])),(10,.bI true),(11,.bI true),(12,.nI l.length),(25,.bI true)],[(0,.buf 0 2 (l.map rng))],1512⟩) (fun n hn=>by simp[hl']) ?_
 refine Wp.cond rfl (Wp.seq ?_);refine Wp.rgn (K:=K) (s':=⟨[],[(0,.buf 0 2 ((isort ltR l).map rng))],1832⟩) (fun n hn=>by simp[lcallM,callee,idsOf,List.flatMap,dedup,nodupB,lendA,place,lentOk,withPlaces,lentR,backAll,hK n hn]) ?_;exact Wp.ret rfl
theorem p_sortR (H:Lib2 prog) (l:List (Int×Int)) (hl:l.length<=12) :
  Ev prog 50 [.own 0 0 l.length 0,.iv (.fn 51 [])] [(0,.buf 0 2 (l.map rng))] (.tup [],[(0,.buf 0 2 ((isort ltR l).map rng))]):=by
 obtain⟨v,K1,hK1⟩:=p_len H.h70 H.h62 (n:=l.length) (by omega);obtain⟨K,hK⟩:=p_pdqR H l hl v;have hw:IntKind.wrap .u64 (l.length:Int)=l.length:=by rw[IntKind.wrap_u64];omega
 have hs:sortM 2000051 [.own 0 0 l.length 0,.iv (.fn 51 [])] [(0,.buf 0 2 (l.map rng))]=none:=by
  have h12:Nat.blt 12 l.length=false:=by rw[Bool.eq_false_iff];intro h;have:=Nat.le_of_ble_eq_true h;omega
  simp[sortM,get,many,h12]
 refine Ev.ofs H.h50 rfl rfl rfl hs (Wp.seq ?_);refine Wp.rg ?_;refine Wp.rgn (K:=max K K1) (s':=⟨[],[(0,.buf 0 2 ((isort ltR l).map rng))],1640⟩) (fun n hn=>by simp[lcallM,callee,idsOf,List.flatMap,dedup,nodupB,lendA,place,lentOk,withPlaces,lentR,backAll,hw,hK1 n (by omega),hK n (by omega)]) ?_;rfl
theorem p_pdqT (H:Lib2 prog) (v0:Nat) (l:List ByteArray) (hl:l.length<=12) (v:Int) :
  Ev prog 65 [.own 0 0 l.length v0,.nI 0,.nI l.length,.nI v] [(0,.buf v0 1 (l.map st1))] (.tup [],[(0,.buf v0 1 ((isort ltT l).map st1))]):=by
 obtain⟨K,hK⟩:=p_isortT H.h88 H.h72 H.h71 v0 l (by unfold maxLen;omega);have hl':(l.length:Int)<=12:=by omega
 have hw:IntKind.wrap .i64 (l.length:Int)=l.length:=IntWalk.i64_in _ (by omega);refine Ev.of H.h65 rfl rfl (Wp.seq ?_);refine Wp.rg ?_;refine Wp.seq ?_;refine Wp.rg ?_;refine Wp.block ?_;refine Wp.loop (fun _ s1=>s1=⟨[(0,.own 0 0 l.length v0),(1,.nI 0),(2,.nI l.length),(3,.nI v),(8,.bI true),(9,.bI true)],[(0,.buf v0 1 (l.map st1))],1128⟩) (m:=0) (by simp[keepFr,get]) ?_;rintro m s1 rfl;refine Wp.block (Wp.seq ?_);refine Wp.rgn (K:=0) (fun n _=>by simp[hw];rfl) ?_;refine Wp.seq (Wp.seq ?_);refine Wp.rgn (K:=0) (s':=⟨[(0,.own 0 0 l.length v0),(1,.nI 0),(2,.nI l.length),(3,.nI v),(8,.bI true),(9,.bI true),(10,.nI l.length),(23,.bI true)],[(0,.buf v0 1 (l.map st1))],1512⟩) (fun n hn=>by simp[hl']) ?_
 refine Wp.cond rfl (Wp.seq ?_);refine Wp.rgn (K:=K) (s':=⟨[],[(0,.buf v0 1 ((isort ltT l).map st1))],1768⟩) (fun n hn=>by simp[lcallM,callee,idsOf,List.flatMap,dedup,nodupB,lendA,place,lentOk,withPlaces,lentR,backAll,hK n hn]) ?_;exact Wp.ret rfl
theorem p_sortT (H:Lib2 prog) (v0:Nat) (l:List ByteArray) (hl:l.length<=12) :
  Ev prog 55 [.own 0 0 l.length v0] [(0,.buf v0 1 (l.map st1))] (.tup [],[(0,.buf v0 1 ((isort ltT l).map st1))]):=by
 obtain⟨v,K1,hK1⟩:=p_len H.h70 H.h62 (n:=l.length) (by omega);obtain⟨K,hK⟩:=p_pdqT H v0 l hl v;have hw:IntKind.wrap .u64 (l.length:Int)=l.length:=by rw[IntKind.wrap_u64];omega
 have hs:sortM 1000000 [.own 0 0 l.length v0] [(0,.buf v0 1 (l.map st1))]=none:=by
  have h12:Nat.blt 12 l.length=false:=by rw[Bool.eq_false_iff];intro h;have:=Nat.le_of_ble_eq_true h;omega
  simp[sortM,get,many,h12]
 refine Ev.ofs H.h55 rfl rfl rfl hs (Wp.seq ?_);refine Wp.rg ?_;refine Wp.rgn (K:=max K K1) (s':=⟨[],[(0,.buf v0 1 ((isort ltT l).map st1))],1576⟩) (fun n hn=>by simp[lcallM,callee,idsOf,List.flatMap,dedup,nodupB,lendA,place,lentOk,withPlaces,lentR,backAll,hw,hK1 n (by omega),hK n (by omega)]) ?_;rfl
end
def compTo (l:List ByteArray):Nat->List ByteArray
 |0=>[]
 |j+1=>match l[j]? with
  |none=>compTo l j
  |some x=>if 0<j/\l[j - 1]?=some x then compTo l j else compTo l j++[x]
def comp (l:List ByteArray):List ByteArray:=compTo l l.length
theorem compTo_len (l:List ByteArray):∀j,(compTo l j).length<=j
 |0=>Nat.le_refl _
 |j+1=>by
  have:=compTo_len l j;unfold compTo;split
  ·omega
  ·split
   ·omega
   ·simp;omega
theorem comp_self {l:List ByteArray} (h:comp l=l):(l.map st1).take (comp l).length=(comp l).map st1:=by
 rw[h,List.take_of_length_le (by simp)]
section
variable {prog:Nat->Option IFn}
theorem Ev.ofx {f:Nat} {fn:IFn} (hf:prog f=some fn) (hcl:fn.cl=none) {args:List AV} (hn:args.length=fn.np) {hp:Hp} (P:AV×Hp->Prop) (h:Wp prog fn.body ⟨params args 0,hp,1000⟩ (fun e s=>∃p,P p/\Fin fn.res p e s)):∃p,P p/\Ev prog f args hp p:=by
 obtain⟨K,ex,s',h,p,hp,q⟩:=h;exact⟨p,hp,Ev.of hf hcl hn ⟨K,ex,s',h,q⟩⟩
set_option maxHeartbeats 2000000 in
theorem p_compact (h:prog 56=some F56) (v0:Nat) (l:List ByteArray) (hl:l.length<=maxLen) :
  ∃p:AV×Hp,(∃rows',rows'.take (comp l).length=(comp l).map st1/\(comp l).length<=rows'.length/\p=(.own 0 0 (comp l).length v0,[(0,.buf v0 1 rows'),(1000,.buf 0 1 [])]))/\Ev prog 56 [.own 0 0 l.length v0] [(0,.buf v0 1 (l.map st1))] p:=by
 refine Ev.ofx h rfl rfl _ (Wp.seq ?_);refine Wp.rg ?_;refine Wp.seq (Wp.seq ?_);refine Wp.rgn (K:=0) (s':=⟨[(0,.own 0 0 l.length v0),(8,.bI (decide (l.length<2)))],[(0,.buf v0 1 (l.map st1)),(1000,.buf 0 1 [])],1256⟩) (fun n _=>by
  have:decide ((l.length:Int)<2)=decide (l.length<2):=decide_eq_decide.2 (by omega);simp[this]) ?_
 refine Wp.cond rfl ?_;cases hs:decide (l.length<2)with
 |true=>
  refine Wp.seq ?_;refine Wp.rg ?_;have hs:=of_decide_eq_true hs;have hc:comp l=l:=by
   unfold comp
   match l,hs with
   |[],_=>rfl
   |[x],_=>rfl
  refine Wp.ret ⟨_,⟨l.map st1,comp_self hc,by rw[hc];simp,rfl⟩,?_⟩;rw[hc];simp[Fin,F56,resAll,resM,outA,ev,get,M.look,M.bind,M.run,M.run_bind,M.ok]
 |false=>
  have hs:=of_decide_eq_false hs;refine Wp.skip (Wp.seq (Wp.seq ?_));refine Wp.rg ?_;refine Wp.block ?_;refine Wp.range (l.length - 1) (fun i=>⟨[(0,.own 0 0 l.length v0),(3,.nI ((i:Int)+1))],[(0,.buf v0 1 (l.map st1)),(1000,.buf 0 1 [])],1320⟩) (fun i=>compTo l (i+1)=l.take (i+1)) (by simp[keepFr,get]) (by
   obtain⟨x,hx⟩:∃x,l[0]?=some x:=⟨_,List.getElem?_eq_getElem (by omega)⟩;rw[compTo,hx,List.take_add_one,hx];simp[compTo]) ?_ ?_
  ·intro i hi hg;have hi1:(i:Int)+1<l.length:=by omega
   have hi2:(i:Int)<l.length:=by omega
   have hi3:(0:Int)<=(i:Int)+1:=by omega
   have hi4:i+1<l.length:=by omega
   have hi6:(i:Int)+1<=l.length:=by omega
   have hi5:i<l.length:=by omega
   have hw:IntKind.wrap .i64 (i:Int)=i:=IntWalk.i64_in _ (by unfold maxLen at hl;omega);have hw1:IntKind.wrap .i64 ((i:Int)+1+1)=(i:Int)+1+1:=IntWalk.i64_in _ (by unfold maxLen at hl;omega);obtain⟨y,hy⟩:∃y,l[i+1]?=some y:=⟨_,List.getElem?_eq_getElem (by omega)⟩;obtain⟨x,hx⟩:∃x,l[i]?=some x:=⟨_,List.getElem?_eq_getElem (by omega)⟩;have hy':l[i+1]'(by omega)=y:=(List.getElem?_eq_some_iff.1 hy).2;have hx':l[i]'(by omega)=x:=(List.getElem?_eq_some_iff.1 hx).2;refine Wp.seq (Wp.seq ?_);refine Wp.rgn (K:=0) (s':=⟨[(0,.own 0 0 l.length v0),(3,.nI ((i:Int)+1)),(13,.bI true)],[(0,.buf v0 1 (l.map st1)),(1000,.buf 0 1 [])],1576⟩) (fun n _=>by simp[hi1]) ?_
   refine Wp.cond rfl (Wp.skip (Wp.seq (Wp.block (Wp.seq ?_))));refine Wp.rgn (K:=0) (s':=⟨[(0,.own 0 0 l.length v0),(3,.nI ((i:Int)+1)),(25,.bI (y==x))],[(0,.buf v0 1 (l.map st1)),(1000,.buf 0 1 [])],2216⟩) (fun n _=>rgn_quiet' rfl (by simp[hi1,hi2,hi3,hi4,hi5,hw,hx,hy,hx',hy',st1])) ?_;refine Wp.cond rfl ?_;cases hb:y==x with
   |false=>
    refine Wp.skip ?_;refine Wp.rg ?_;refine⟨by simp[again,keepFr,get,nrm,nrmO,hw1],?_⟩;rw[compTo,hy,hg];rw[ba_beq,decide_eq_false_iff_not]at hb;have:¬(0<i+1/\l[i+1 - 1]?=some y):=by
     rintro⟨_,h2⟩;rw[Nat.add_sub_cancel,hx]at h2;exact hb (Option.some.inj h2).symm
    simp only[if_neg this];rw[List.take_add_one (i:=i+1),hy];rfl
   |true=>
    rw[ba_beq,decide_eq_true_eq]at hb;refine Wp.seq ?_;refine Wp.rgn (K:=0) (s':=⟨[(0,.own 0 0 l.length v0),(3,.nI ((i:Int)+1)),(4,.own 0 (i+1) (l.length - (i+1)) v0)],[(0,.buf v0 1 (l.map st1)),(1000,.buf 0 1 [])],2472⟩) (fun n _=>by simp[hi1,hi3,hi6]) ?_;refine Wp.seq (Wp.seq ?_);refine Wp.rg ?_;refine Wp.block ?_;refine Wp.loop (fun m s1=>∃(j k:Nat) (cur:List ByteArray),j+m=l.length - (i+1)/\1<=j/\cur.length=l.length/\(∀t,i+j<=t->cur[t]?=l[t]?)/\k<=i+j/\cur.take k=compTo l (i+1+j)/\
     s1=⟨[(0,.own 0 0 l.length v0),(3,.nI (k:Int)),(4,.own 0 (i+1) (l.length - (i+1)) v0),(5,.nI (j:Int))],[(0,.buf v0 1 (cur.map st1)),(1000,.buf 0 1 [])],2536⟩) (m:=l.length - (i+1) - 1) ?_ ?_
    ·refine⟨1,i+1,l,by omega,Nat.le_refl _,rfl,fun _ _=>rfl,Nat.le_refl _,?_,by simp[keepFr,get]⟩;rw[compTo,hy,<-hg];simp only;rw[if_pos ⟨Nat.succ_pos _,by rw[Nat.add_sub_cancel,hx,hb]⟩]
    ·rintro m s1 ⟨j,k,cur,e1,e2,e3,e4,e5,e6,rfl⟩;have hwk:IntKind.wrap .i64 ((k:Int)+1)=(k:Int)+1:=IntWalk.i64_in _ (by unfold maxLen at hl;omega);have hwj:IntKind.wrap .i64 ((j:Int)+1)=(j:Int)+1:=IntWalk.i64_in _ (by unfold maxLen at hl;omega);have hwj1:IntKind.wrap .i64 ((j:Int) - 1)=((j - 1:Nat):Int):=by rw[IntWalk.i64_in _ (by unfold maxLen at hl;omega)];omega
     cases m with
     |zero=>
      have hj:¬(j:Int)<((l.length - (i+1):Nat):Int):=by omega
      refine Wp.seq (Wp.seq ?_);refine Wp.rgn (K:=0) (s':=⟨[(0,.own 0 0 l.length v0),(3,.nI (k:Int)),(4,.own 0 (i+1) (l.length - (i+1)) v0),(5,.nI (j:Int)),(32,.bI false)],[(0,.buf v0 1 (cur.map st1)),(1000,.buf 0 1 [])],2792⟩) (fun n _=>by simp[hj]) ?_;refine Wp.cond rfl (Wp.exit ?_);simp only[Ex.then,Ex.inBlock,if_true];have hk1:(k:Int)<=l.length:=by omega
      have hkn:k<=l.length:=by omega
      refine Wp.seq ?_;refine Wp.rgn (K:=0) (s':=⟨[(0,.own 0 0 l.length v0),(3,.nI (k:Int))],[(0,.buf v0 1 ((cur.map st1).take k++List.replicate (l.length - k) [.str ⟨#[]⟩]++(cur.map st1).drop (k+(l.length - k)))),(1000,.buf 0 1 [])],3048⟩) (fun n _=>by simp[clr,hk1,hkn]) ?_;refine Wp.seq ?_;refine Wp.rgn (K:=0) (s':=⟨[(2,.own 0 0 k v0)],[(0,.buf v0 1 ((cur.map st1).take k++List.replicate (l.length - k) [.str ⟨#[]⟩]++(cur.map st1).drop (k+(l.length - k)))),(1000,.buf 0 1 [])],3304⟩) (fun n _=>by simp[hk1,hkn]) ?_;have hc:comp l=cur.take k:=by rw[e6];unfold comp;congr 1;omega
      have hk:(comp l).length=k:=by rw[hc,List.length_take];omega
      refine Wp.ret ⟨_,⟨(cur.map st1).take k++List.replicate (l.length - k) [.str ⟨#[]⟩]++(cur.map st1).drop (k+(l.length - k)),?_,?_,rfl⟩,?_⟩
      case refine_3=>rw[hk];simp[Fin,F56,resAll,resM,outA,ev,get,M.look,M.bind,M.run,M.run_bind,M.ok]
      case refine_1=>rw[hk,hc,List.append_assoc,List.take_append_of_le_length (by simp;omega),List.map_take,List.take_take,Nat.min_self]
      case refine_2=>rw[hk];simp;omega
     |succ m=>
      have hj:(j:Int)<((l.length - (i+1):Nat):Int):=by omega
      have hj1:j<l.length - (i+1):=by omega
      have hj2:(((j - 1:Nat):Int))<((l.length - (i+1):Nat):Int):=by omega
      have hj3:i+1+(j - 1)=i+j:=by omega
      have hj4:j - 1<l.length - (i+1):=by omega
      obtain⟨v,hv⟩:∃v,l[i+1+j]?=some v:=⟨_,List.getElem?_eq_getElem (by omega)⟩;obtain⟨u,hu⟩:∃u,l[i+j]?=some u:=⟨_,List.getElem?_eq_getElem (by omega)⟩;have cv:cur[i+1+j]?=some v:=by rw[e4 _ (by omega),hv]
      have cu:cur[i+j]?=some u:=by rw[e4 _ (by omega),hu]
      have cv':cur[i+1+j]'(by omega)=v:=(List.getElem?_eq_some_iff.1 cv).2;have cu':cur[i+j]'(by omega)=u:=(List.getElem?_eq_some_iff.1 cu).2;refine Wp.seq (Wp.seq ?_);refine Wp.rgn (K:=0) (s':=⟨[(0,.own 0 0 l.length v0),(3,.nI (k:Int)),(4,.own 0 (i+1) (l.length - (i+1)) v0),(5,.nI (j:Int)),(32,.bI true)],[(0,.buf v0 1 (cur.map st1)),(1000,.buf 0 1 [])],2792⟩) (fun n _=>by simp[hj]) ?_;refine Wp.cond rfl (Wp.skip (Wp.seq (Wp.block (Wp.seq ?_))));refine Wp.rgn (K:=0) (s':=⟨[(0,.own 0 0 l.length v0),(3,.nI (k:Int)),(4,.own 0 (i+1) (l.length - (i+1)) v0),(5,.nI (j:Int)),(44,.bI (!(v==u)))],[(0,.buf v0 1 (cur.map st1)),(1000,.buf 0 1 [])],3432⟩) (fun n _=>rgn_quiet' rfl (by simp[hj,hj1,hj2,hj3,hj4,hwj1,cv,cu,cv',cu',st1])) ?_
      refine Wp.cond rfl ?_;cases hb2:v==u with
      |true=>
       refine Wp.skip ?_;simp only[Ex.then,Ex.inBlock];refine Wp.rg ?_;refine⟨m,by omega,j+1,k,cur,by omega,by omega,e3,fun t ht=>e4 t (by omega),by omega,?_,by simp[again,keepFr,get,nrm,nrmO,hwj]⟩;rw[ba_beq,decide_eq_true_eq]at hb2;rw[e6,<-Nat.add_assoc,compTo,hv];simp only;rw[if_pos ⟨by omega,by rw[show i+1+j - 1=i+j by omega,hu,hb2]⟩]
      |false=>
       have hk1:(k:Int)<l.length:=by omega
       have hk2:k<l.length:=by omega
       refine Wp.seq ?_;refine Wp.rgn (K:=0) (s':=⟨[(0,.own 0 0 l.length v0),(3,.nI (k:Int)),(4,.own 0 (i+1) (l.length - (i+1)) v0),(5,.nI (j:Int))],[(0,.buf v0 1 ((cur.set k v).map st1)),(1000,.buf 0 1 [])],3944⟩) (fun n _=>by simp[hj,hj1,hj2,hj3,hj4,hwj1,cv,cu,cv',cu',hk1,hk2,e3,st1]) ?_;refine Wp.rg ?_;simp only[Ex.then,Ex.inBlock];refine Wp.rg ?_;refine⟨m,by omega,j+1,k+1,cur.set k v,by omega,by omega,by simp[e3],fun t ht=>by rw[List.getElem?_set_ne (by omega)];exact e4 t (by omega),by omega,?_,by simp[again,keepFr,get,nrm,nrmO,hwj,hwk]⟩;rw[ba_beq,decide_eq_false_iff_not]at hb2;rw[<-Nat.add_assoc,compTo,hv]
       simp only;rw[if_neg (by rintro⟨_,h2⟩;rw[show i+1+j - 1=i+j by omega,hu]at h2;exact hb2 (Option.some.inj h2).symm),<-e6,List.take_add_one];simp[List.take_set,List.getElem?_set,hk2,e3];exact List.set_eq_of_length_le (by simp;omega)
  ·intro hg;refine Wp.seq (Wp.seq ?_);have hn:¬((l.length - 1:Nat):Int)+1<l.length:=by omega
   refine Wp.rgn (K:=0) (s':=⟨[(0,.own 0 0 l.length v0),(3,.nI (((l.length - 1:Nat):Int)+1)),(13,.bI false)],[(0,.buf v0 1 (l.map st1)),(1000,.buf 0 1 [])],1576⟩) (fun n _=>by simp[hn]) ?_;refine Wp.cond rfl (Wp.exit ?_);simp only[Ex.then,Ex.inBlock,if_true];refine Wp.seq ?_;refine Wp.rg ?_;have hc:comp l=l:=by
    unfold comp;rw[show l.length - 1+1=l.length by omega,List.take_length]at hg;exact hg
   refine Wp.ret ⟨_,⟨l.map st1,comp_self hc,by rw[hc];simp,rfl⟩,?_⟩;rw[hc];simp[Fin,F56,resAll,resM,outA,ev,get,M.look,M.bind,M.run,M.run_bind,M.ok]
end
def joinB (o:List (Int×Int)) (r:Int×Int):Bool:=
 match o[o.length - 1]? with
 |some p=>p.2==9223372036854775807||decide (r.1<=IntKind.wrap .i64 (p.2+1))
 |none=>false
def hiR (o:List (Int×Int)) (r:Int×Int):List (Int×Int):=
 match o[o.length - 1]? with
 |some p=>o.set (o.length - 1) (p.1,if r.2 > p.2 then r.2 else p.2)
 |none=>o
def addR (o:List (Int×Int)) (r:Int×Int):List (Int×Int):=
 if decide (r.2<r.1) then o else if joinB o r then hiR o r else o++[r]
def normR (l:List (Int×Int)):List (Int×Int):=(isort ltR l).foldl addR []
theorem isort_len {α:Type} (lt:α->α->Bool) (l:List α):(isort lt l).length=l.length:=sinks_len lt l _
theorem addR_len (o:List (Int×Int)) (r:Int×Int):(addR o r).length<=o.length+1:=by
 unfold addR hiR;split
 ·omega
 ·split
  ·split<;>simp
  ·simp
theorem foldR_len:∀(l o:List (Int×Int)),(l.foldl addR o).length<=o.length+l.length
 |[],_=>Nat.le_refl _
 |r::l,o=>by
  have:=foldR_len l (addR o r);have:=addR_len o r;simp only[List.foldl_cons,List.length_cons];omega
theorem take_map_len {α β:Type} (f:α->β) (l:List α):(l.map f).take l.length=l.map f:=List.take_of_length_le (by simp)
section
variable {prog:Nat->Option IFn}
set_option maxHeartbeats 4000000 in
theorem p_rangesQ (h38:prog 38=some F38) (h:prog 37=some F37) (l q:List (Int×Int)) (hl:l.length<=100000) (hql:q.length=l.length) (hs:Ev prog 50 [.own 0 0 l.length 0,.iv (.fn 51 [])] [(0,.buf 0 2 (l.map rng))] (.tup [],[(0,.buf 0 2 (q.map rng))])) :
  Ans prog 37 [.iv (.sl 2 (l.map rng))] (.iv (.sl 2 ((q.foldl addR []).map rng))):=by
 obtain⟨K,hK⟩:=hs;refine Ans.of h rfl rfl (Wp.seq ?_);refine Wp.rg ?_;refine Wp.seq ?_;refine Wp.rgn (K:=1) (s':=⟨[(0,.own 1128 0 l.length 0),(2,.own 1000 0 0 0)],[(1000,.buf 0 2 []),(1128,.buf 0 2 (l.map rng))],1256⟩) (fun n hn=>by
  obtain⟨n,rfl⟩:∃n',n=n'+1:=⟨n - 1,by omega⟩;have hr:l.length<=1073741824:=by omega
  simp[ocallM,takeR,evalF,h38,F38,cloneM,roomy,hr]) ?_
 refine Wp.seq ?_;refine Wp.rgn (K:=K) (s':=⟨[(0,.own 1128 0 l.length 0),(2,.own 1000 0 0 0)],[(1000,.buf 0 2 []),(1128,.buf 0 2 (q.map rng))],1384⟩) (fun n hn=>by simp[lcallM,callee,idsOf,List.flatMap,dedup,nodupB,lendA,place,lentOk,withPlaces,lentR,backAll,hK n hn]) ?_;refine Wp.seq (Wp.seq ?_);refine Wp.rg ?_;refine Wp.block ?_;refine Wp.range l.length (fun i=>⟨[(2,.own 1000 0 ((q.take i).foldl addR []).length 0),(10,.own 1128 0 l.length 0),(11,.nI l.length),(12,.nI i)],[(1000,.buf 0 2 (((q.take i).foldl addR []).map rng)),(1128,.buf 0 2 (q.map rng))],1576⟩) (fun _=>True) (by simp[keepFr,get]) trivial ?_ ?_
 ·intro i hi _;obtain⟨r,hr⟩:∃r,q[i]?=some r:=⟨_,List.getElem?_eq_getElem (by omega)⟩;have hnext:(q.take (i+1)).foldl addR []=addR ((q.take i).foldl addR []) r:=by rw[List.take_add_one,hr];simp
  have hlen:((q.take i).foldl addR []).length<=100000:=by have:=foldR_len (q.take i) [];simp at this;omega
  rw[hnext];generalize(q.take i).foldl addR []=o at hlen;have hi1:(i:Int)<l.length:=by omega
  have hr':q[i]'(by omega)=r:=(List.getElem?_eq_some_iff.1 hr).2;have hw1:IntKind.wrap .i64 ((i:Int)+1)=(i:Int)+1:=IntWalk.i64_in _ (by omega);refine Wp.seq ?_;refine Wp.rgn (K:=0) (s':=⟨[(2,.own 1000 0 o.length 0),(10,.own 1128 0 l.length 0),(11,.nI l.length),(12,.nI i),(13,.bI true)],[(1000,.buf 0 2 (o.map rng)),(1128,.buf 0 2 (q.map rng))],1640⟩) (fun n _=>by simp[hi]) ?_;refine Wp.seq (Wp.cond rfl (Wp.skip (Wp.seq (Wp.block (Wp.seq ?_)))));refine Wp.rgn (K:=0) (s':=⟨[(2,.own 1000 0 o.length 0),(4,.ref 1768 0 0 0),(10,.own 1128 0 l.length 0),(11,.nI l.length),(12,.nI i)],[(1000,.buf 0 2 (o.map rng)),(1128,.buf 0 2 (q.map rng)),(1768,.cells [.nI r.1,.nI r.2])],1896⟩) (fun n _=>by simp[hi,hr,rng]) ?_
  refine Wp.seq (Wp.seq ?_);refine Wp.rg ?_;refine Wp.cond rfl ?_;unfold addR;cases hd:decide (r.2<r.1)with
  |true=>
   refine Wp.exit ?_;simp only[Ex.then,Ex.inBlock,if_true];refine Wp.rg ?_;exact⟨by simp[again,keepFr,get,nrm,nrmO,hw1],trivial⟩
  |false=>
   refine Wp.skip (Wp.seq ?_);refine Wp.rg ?_;refine Wp.seq (Wp.seq ?_);refine Wp.rgn (K:=0) (s':=⟨[(2,.own 1000 0 o.length 0),(4,.ref 1768 0 0 0),(5,.nI o.length),(10,.own 1128 0 l.length 0),(11,.nI l.length),(12,.nI i),(45,.bI (joinB o r))],[(1000,.buf 0 2 (o.map rng)),(1128,.buf 0 2 (q.map rng)),(1768,.cells [.nI r.1,.nI r.2])],3880⟩) (fun n _=>rgn_quiet' rfl (by
    by_cases h0:o.length=0
    ·obtain rfl:o=[]:=List.eq_nil_of_length_eq_zero h0;simp[joinB]
    ·have hm1:(0:Int)<o.length:=by omega
     have hm2:IntKind.wrap .i64 ((o.length:Int) - 1)=((o.length - 1:Nat):Int):=by rw[IntWalk.i64_in _ (by omega)];omega
     have hm3:((o.length - 1:Nat):Int)<o.length:=by omega
     have hm4:0<o.length:=by omega
     obtain⟨p,hp⟩:∃p,o[o.length - 1]?=some p:=⟨_,List.getElem?_eq_getElem (by omega)⟩;have hp':o[o.length - 1]'(by omega)=p:=(List.getElem?_eq_some_iff.1 hp).2;cases h1:p.2==9223372036854775807<;>simp[joinB,hm1,hm2,hm3,hm4,hp,hp',rng,h1])) ?_
   refine Wp.cond rfl ?_;cases hj:joinB o r with
   |true=>
    obtain⟨p,hp⟩:∃p,o[o.length - 1]?=some p:=by
     unfold joinB at hj;split at hj
     ·exact⟨_,by assumption⟩
     ·cases hj
    have h0:o.length≠0:=by intro h0;rw[List.getElem?_eq_none (by omega)]at hp;cases hp
    have hm1:(0:Int)<o.length:=by omega
    have hm2:IntKind.wrap .i64 ((o.length:Int) - 1)=((o.length - 1:Nat):Int):=by rw[IntWalk.i64_in _ (by omega)];omega
    have hm3:((o.length - 1:Nat):Int)<o.length:=by omega
    have hm4:0<o.length:=by omega
    have hp':o[o.length - 1]'(by omega)=p:=(List.getElem?_eq_some_iff.1 hp).2;have hh:hiR o r=o.set (o.length - 1) (p.1,if r.2 > p.2 then r.2 else p.2):=by unfold hiR;rw[hp]
    refine Wp.seq ?_;refine Wp.rgn (K:=0) (s':=⟨[(2,.own 1000 0 o.length 0),(10,.own 1128 0 l.length 0),(11,.nI l.length),(12,.nI i)],[(1000,.buf 0 2 ((hiR o r).map rng)),(1128,.buf 0 2 (q.map rng)),(1768,.cells [.nI r.1,.nI r.2])],4840⟩) (fun n _=>by
     rw[hh];simp[mxI,hm1,hm2,hm3,hm4,hp,hp',rng]) ?_
    refine Wp.exit ?_;simp only[Ex.then,Ex.inBlock,if_true];refine Wp.rg ?_;refine⟨?_,trivial⟩;simp[again,keepFr,get,nrm,nrmO,hw1,hh]
   |false=>
    refine Wp.skip ?_;have hr2:o.length+1<=1073741824:=by omega
    refine Wp.rgn (K:=0) (s':=⟨[(2,.own 1000 0 (o.length+1) 1),(10,.own 1128 0 l.length 0),(11,.nI l.length),(12,.nI i)],[(1000,.buf 1 2 ((o++[r]).map rng)),(1128,.buf 0 2 (q.map rng)),(1768,.cells [.nI r.1,.nI r.2]),(4008,.buf 0 2 [rng r])],4200⟩) (fun n _=>by
     simp[app,elems,roomy,hr2,rng,setAll,take_map_len]) ?_
    simp only[Ex.then,Ex.inBlock];refine Wp.rg ?_;refine⟨?_,trivial⟩;simp[again,keepFr,get,nrm,nrmO,hw1]
 ·intro _;refine Wp.seq ?_;have hn:¬(l.length:Int)<l.length:=by omega
  refine Wp.rgn (K:=0) (fun n _=>by simp[hn];rfl) ?_;refine Wp.seq (Wp.cond rfl (Wp.exit ?_));simp only[Ex.then,Ex.inBlock,if_true];refine Wp.seq ?_;refine Wp.rg ?_;refine Wp.ret ?_;have hql2:q.take l.length=q:=by rw[<-hql,List.take_length]
  rw[hql2];simp[FinS,F37,resAll,resM,outA,ev,get,M.look,M.bind,M.run,M.run_bind,M.ok,shut,fzA,fz1,fzC,fz,M.write,M.lift,take_map_len]
theorem p_ranges (H:Lib2 prog) (h38:prog 38=some F38) (h:prog 37=some F37) (l:List (Int×Int)) (hl:l.length<=12):Ans prog 37 [.iv (.sl 2 (l.map rng))] (.iv (.sl 2 ((normR l).map rng))):=
 p_rangesQ h38 h l (isort ltR l) (by omega) (isort_len _ _) (p_sortR H l hl)
end
def joinT (a b:List ByteArray):List ByteArray:=comp (isort ltT (a++b))
section
variable {prog:Nat->Option IFn}
set_option maxHeartbeats 1000000 in
theorem p_joinQ (h54:prog 54=some F54) (h56:prog 56=some F56) (h:prog 40=some F40) (a b q:List ByteArray) (hl:a.length+b.length<=100000) (hql:q.length=(a++b).length)
  (hs:Ev prog 55 [.own 0 0 (a++b).length 1] [(0,.buf 1 1 ((a++b).map st1))] (.tup [],[(0,.buf 1 1 (q.map st1))])) :
  Ans prog 40 [.iv (.sl 1 (a.map st1)),.iv (.sl 1 (b.map st1))] (.iv (.sl 1 ((comp q).map st1))):=by
 obtain⟨K1,hK1⟩:=hs;obtain⟨p,⟨rows',hr1,hr2,rfl⟩,K2,hK2⟩:=p_compact h56 1 q (by rw[hql];simp[maxLen];omega);rw[List.length_append,List.map_append]at hK1;rw[hql,List.length_append]at hK2;refine Ans.of h rfl rfl (Wp.seq ?_);refine Wp.rg ?_;refine Wp.seq ?_;refine Wp.rgn (K:=1) (s':=⟨[(5,.own 1128 0 (a.length+b.length) 1)],[(1000,.buf 0 1 []),(1128,.buf 1 1 ((a++b).map st1))],1384⟩) (fun n hn=>by
  obtain⟨n,rfl⟩:∃n',n=n'+1:=⟨n - 1,by omega⟩;have hr:a.length<=1073741824:=by omega
  have hr2:a.length+b.length<=1073741824:=by omega
  simp[ocallM,takeR,evalF,h54,F54,cloneM,roomy,hr,hr2,app,elems,take_map_len]) ?_
 refine Wp.seq ?_;refine Wp.rgn (K:=K1) (s':=⟨[(5,.own 1128 0 (a.length+b.length) 1)],[(1000,.buf 0 1 []),(1128,.buf 1 1 (q.map st1))],1512⟩) (fun n hn=>by simp[lcallM,callee,idsOf,List.flatMap,dedup,nodupB,lendA,place,lentOk,withPlaces,lentR,backAll,hK1 n hn]) ?_;refine Wp.seq ?_;refine Wp.rgn (K:=K2) (s':=⟨[(4,.own 1128 0 (comp q).length 1)],[(1000,.buf 0 1 []),(1128,.buf 1 1 rows')],1704⟩) (fun n hn=>by simp[lcallM,callee,idsOf,List.flatMap,dedup,nodupB,lendA,place,lentOk,withPlaces,lentR,backAll,hK2 n hn]) ?_;refine Wp.ret ?_;simp[FinS,F40,resAll,resM,outA,ev,get,M.look,M.bind,M.run,M.run_bind,M.ok,shut,fzA,fz1,fzC,fz,M.write,M.lift,hr1]
theorem p_join (H:Lib2 prog) (h54:prog 54=some F54) (h56:prog 56=some F56) (h:prog 40=some F40) (a b:List ByteArray) (hl:a.length+b.length<=12) :
  Ans prog 40 [.iv (.sl 1 (a.map st1)),.iv (.sl 1 (b.map st1))] (.iv (.sl 1 ((joinT a b).map st1))):=
 p_joinQ h54 h56 h a b (isort ltT (a++b)) (by omega) (isort_len _ _) (p_sortT H 1 (a++b) (by simpa using hl))
end
def orT (x y:S):List ByteArray:=
 if x.c&&y.c then pickS x.s y.s true else if x.c then pickS x.s y.s false else if y.c then pickS y.s x.s false else joinT x.s y.s
def orS (x y:S):S:=⟨x.a||y.a,normR (x.i++y.i),x.c||y.c,orT x y⟩
structure Lib3 (prog:Nat->Option IFn):Prop extends Lib2 prog where
 h23:prog 23=some F23
 h37:prog 37=some F37
 h38:prog 38=some F38
 h39:prog 39=some F39
 h40:prog 40=some F40
 h53:prog 53=some F53
 h54:prog 54=some F54
 h56:prog 56=some F56
 h64:prog 64=some F64
section
variable {prog:Nat->Option IFn}
def orHp (x y:S) (t:AV):Hp:=[(1000,.cells [.iv (.bool x.a),.iv (.sl 2 (x.i.map rng)),.iv (.bool x.c),.iv (.sl 1 (x.s.map st1))]),(1064,.cells [.iv (.bool y.a),.iv (.sl 2 (y.i.map rng)),.iv (.bool y.c),.iv (.sl 1 (y.s.map st1))]),
 (1130,.buf 0 2 []),(1132,.buf 0 1 []),(1128,.cells [.iv (.bool false),.own 1130 0 0 0,.iv (.bool false),.own 1132 0 0 0]),(1704,.imm 1 2 (x.i.map rng++y.i.map rng)),(2474,.buf 0 2 []),(2476,.buf 0 1 []),
 (2472,.cells [.iv (.bool (x.a||y.a)),.iv (.sl 2 ((normR (x.i++y.i)).map rng)),.iv (.bool (x.c||y.c)),t]),(2539,.buf 0 1 [])]
set_option maxHeartbeats 4000000 in
theorem p_orQ (H:Lib3 prog) (x y:S) (hi:x.i.length+y.i.length<=100000) (hs:x.s.length<=1000/\y.s.length<=1000) (hR:Ans prog 37 [.iv (.sl 2 ((x.i++y.i).map rng))] (.iv (.sl 2 ((normR (x.i++y.i)).map rng))))
  (hJ:Ans prog 40 [.iv (.sl 1 (x.s.map st1)),.iv (.sl 1 (y.s.map st1))] (.iv (.sl 1 ((joinT x.s y.s).map st1)))):Ans prog 23 [x.av,y.av] (orS x y).av:=by
 obtain⟨K1,hK1⟩:=hR;rw[List.map_append]at hK1;obtain⟨K2,hK2⟩:=p_pick H.h64 H.h53 H.h39 x.s y.s true (by omega) (by unfold maxLen;omega);obtain⟨K3,hK3⟩:=p_pick H.h64 H.h53 H.h39 x.s y.s false (by omega) (by unfold maxLen;omega);obtain⟨K4,hK4⟩:=p_pick H.h64 H.h53 H.h39 y.s x.s false (by omega) (by unfold maxLen;omega);obtain⟨K5,hK5⟩:=hJ;refine Ans.of H.h23 rfl rfl (Wp.seq ?_);refine Wp.rgn (K:=0) (fun n _=>by simp[S.av];rfl) ?_;refine Wp.seq ?_;refine Wp.rgn (K:=max K1 1) (s':=⟨[(2,.ref 1000 0 0 0),(3,.ref 1064 0 0 0),(4,.ref 1128 0 0 0),(5,.ref 2472 0 0 0)],orHp x y (.own 2539 0 0 0),2600⟩) (fun n hn=>by
  obtain⟨n,rfl⟩:∃n',n=n'+1:=⟨n - 1,by omega⟩;have e1:=hK1 (n+1) (by omega);have hr:x.i.length<=1073741824:=by omega
  have hr2:x.i.length+y.i.length<=1073741824:=by omega
  have f38:∀es,evalF prog (n+1) 38 [.iv (.sl 2 es)] []=(cloneM 2 [.iv (.sl 2 es)]).run []:=fun es=>by simp only[evalF,H.h38,F38];rfl
  generalize evalF prog (n+1)=g at e1 f38;have ht:(x.i.map rng++y.i.map rng).take (x.i.length+y.i.length)=x.i.map rng++y.i.map rng:=List.take_of_length_le (by simp);cases ha:x.a<;>cases hc:x.c<;>simp[ocallM,takeR,f38,cloneM,roomy,hr,hr2,app,elems,take_map_len,e1,ha,hc,orHp,ht]) ?_
 refine Wp.seq (Wp.block (Wp.mono (Q:=fun e s=>e = .norm/\∃nx,s=⟨[(4,.ref 1128 0 0 0),(5,.ref 2472 0 0 0)],orHp x y (.iv (.sl 1 ((orT x y).map st1))),nx⟩) ?_ ?_))
 ·refine Wp.seq ?_;refine Wp.rgn (K:=0) (s':=⟨[(2,.ref 1000 0 0 0),(3,.ref 1064 0 0 0),(4,.ref 1128 0 0 0),(5,.ref 2472 0 0 0),(32,.bI (x.c&&y.c))],orHp x y (.own 2539 0 0 0),3048⟩) (fun n hn=>by
   cases hc:x.c<;>simp[orHp,hc]) ?_
  refine Wp.cond rfl ?_;unfold orT;cases hb:x.c&&y.c with
  |true=>
   refine Wp.rgn (K:=K2) (s':=⟨[(4,.ref 1128 0 0 0),(5,.ref 2472 0 0 0)],orHp x y (.iv (.sl 1 ((pickS x.s y.s true).map st1))),3496⟩) (fun n hn=>by
    have e2:=hK2 n hn;generalize evalF prog n=g at e2;simp[orHp,e2]) ⟨rfl,_,rfl⟩
  |false=>
   refine Wp.seq ?_;refine Wp.rgn (K:=0) (s':=⟨[(2,.ref 1000 0 0 0),(3,.ref 1064 0 0 0),(4,.ref 1128 0 0 0),(5,.ref 2472 0 0 0),(45,.bI x.c)],orHp x y (.own 2539 0 0 0),3240⟩) (fun n hn=>by simp[orHp]) ?_;refine Wp.cond rfl ?_;cases hc:x.c with
   |true=>
    refine Wp.rgn (K:=K3) (s':=⟨[(4,.ref 1128 0 0 0),(5,.ref 2472 0 0 0)],orHp x y (.iv (.sl 1 ((pickS x.s y.s false).map st1))),3688⟩) (fun n hn=>by
     have e2:=hK3 n hn;generalize evalF prog n=g at e2;simp[orHp,e2]) ⟨rfl,_,rfl⟩
   |false=>
    refine Wp.seq ?_;refine Wp.rgn (K:=0) (s':=⟨[(2,.ref 1000 0 0 0),(3,.ref 1064 0 0 0),(4,.ref 1128 0 0 0),(5,.ref 2472 0 0 0),(54,.bI y.c)],orHp x y (.own 2539 0 0 0),3432⟩) (fun n hn=>by simp[orHp]) ?_;refine Wp.cond rfl ?_;cases hd:y.c with
    |true=>
     refine Wp.rgn (K:=K4) (s':=⟨[(4,.ref 1128 0 0 0),(5,.ref 2472 0 0 0)],orHp x y (.iv (.sl 1 ((pickS y.s x.s false).map st1))),3880⟩) (fun n hn=>by
      have e2:=hK4 n hn;generalize evalF prog n=g at e2;simp[orHp,e2]) ⟨rfl,_,rfl⟩
    |false=>
     refine Wp.rgn (K:=K5) (s':=⟨[(4,.ref 1128 0 0 0),(5,.ref 2472 0 0 0)],orHp x y (.iv (.sl 1 ((joinT x.s y.s).map st1))),3880⟩) (fun n hn=>by
      have e2:=hK5 n hn;generalize evalF prog n=g at e2;simp[orHp,e2]) ⟨rfl,_,rfl⟩
 ·rintro e s ⟨rfl,nx,rfl⟩;simp only[Ex.then,Ex.inBlock];refine Wp.seq ?_;refine Wp.rgn (K:=0) (fun n _=>by simp[orHp];rfl) ?_;refine Wp.ret ?_;simp[FinS,F23,resAll,resM,outA,load,obRead,mk,ev,get,M.look,M.bind,M.run,M.run_bind,M.ok,M.lift,shut,fzA,fz1,fzC,fz,M.mapL,S.av,orS]
end
section
variable {prog:Nat->Option IFn}
end
section
variable {prog:Nat->Option IFn}
end
section
variable {prog:Nat->Option IFn}
end
end Arb
namespace Arb
open Go
def in64 (n:Int):Prop:=-9223372036854775808<=n/\n<=9223372036854775807
structure S.ok (s:S):Prop where
 li:s.i.length<=maxLen
 ls:s.s.length<=maxLen
 ri:∀p ∈ s.i,in64 p.1/\in64 p.2
 rs:∀t ∈ s.s,t.size<=maxLen
def B.ok (b:B):Prop:=b.s0.ok/\b.s1.ok/\b.s2.ok/\b.s3.ok
theorem B.ok.at {b:B} (h:b.ok) {i:Nat} (hi:i<4):(b.get i).ok:=by
 match i,hi with
 |0,_=>exact h.1
 |1,_=>exact h.2.1
 |2,_=>exact h.2.2.1
 |3,_=>exact h.2.2.2
theorem B.ok.fits {b:B} (h:b.ok):b.fits:=fun _ hi=>⟨(h.at hi).li,(h.at hi).ls⟩
theorem rows_map {α:Type} (f:α->List IV) (P:α->Prop):∀rows:List (List IV),(∀r ∈ rows,∃a,r=f a/\P a)->∃l:List α,rows=l.map f/\∀a ∈ l,P a
 |[],_=>⟨[],rfl,fun a h=>by cases h⟩
 |r::rows,h=>by
  obtain⟨a,rfl,ha⟩:=h r (List.mem_cons_self ..);obtain⟨l,rfl,hl⟩:=rows_map f P rows fun r' h'=>h r' (List.mem_cons_of_mem _ h')
  exact⟨a::l,rfl,fun b hb=>(List.mem_cons.1 hb).elim (fun e=>e▸ha) (hl b)⟩
theorem FitsL.split:∀{ss ts:List Sh} {xs:List IV},FitsL (ss++ts) xs->∃a b,xs=a++b/\FitsL ss a/\FitsL ts b
 |[],_,xs,h=>⟨[],xs,rfl,trivial,h⟩
 |_::_,_,[],h=>h.elim
 |_::_,_,x::xs,h=>by
  obtain⟨a,b,rfl,ha,hb⟩:=FitsL.split h.2;exact⟨x::a,b,rfl,⟨h.1,ha⟩,hb⟩
theorem wf64 {n:Int} (h:(Lit.int .i64 n).wf=true):in64 n:=by
 simp only[Lit.wf,Bool.and_eq_true,decide_eq_true_eq]at h;rw[show IntKind.i64.min = -9223372036854775808 by decide,show IntKind.i64.max=9223372036854775807 by decide]at h;exact h
theorem FitsL.one {a:Sh} {ss:List Sh}:∀{xs:List IV},FitsL (a::ss) xs->∃x r,xs=x::r/\Fits a x/\FitsL ss r
 |[],h=>h.elim
 |x::r,h=>⟨x,r,rfl,h.1,h.2⟩
theorem FitsL.none:∀{xs:List IV},FitsL [] xs->xs=[]
 |[],_=>rfl
 |_::_,h=>h.elim
end Arb
namespace Arb
open Go
attribute [local simp] evalRgn Option.map_some evalOps step wants osem M.run_bind M.mapL M.run M.ok M.fresh M.write M.look M.lift putD Arb.set ev Arb.get keepFr bin intBin strBin mk params cellsM load obRead fadr fld isl iarr xarr idx len valid slc bound store splice nilc un eqs eq0 evalFeet footOf M.foot orderOk apartAll apart1 clash meets callM fcallM callee fz1 fzC fz flat flat1 flat0 flatI Option.bind_some putAll M.bind oo om ol oa oc ob on og od oe ci cb
section
variable {prog:Nat->Option IFn}
def fewS (x:S):Bool:=decide (x.i.length<=40)&&decide (x.s.length<=40)&&x.s.all fun t=>decide (t.size<=100)
theorem p_few3 (h:prog 27=some F27) (l:List S) (hl:l.length<=maxLen):Ans prog 27 [sets l] (.bI (l.all fewS)):=by
 refine Ans.of h rfl rfl (Wp.seq ?_);refine Wp.rg ?_;refine Wp.seq (Wp.seq ?_);refine Wp.rg ?_;refine Wp.block ?_;refine Wp.range l.length (fun i=>⟨[(0,sets l),(3,.nI i)],[],1128⟩) (fun i=>(l.take i).all fewS=true) rfl (by simp) ?_ ?_
 ·intro i hi hg;obtain⟨x,hx⟩:∃x,l[i]?=some x:=⟨_,List.getElem?_eq_getElem hi⟩;refine Wp.seq (Wp.seq ?_);refine Wp.rgn (K:=0) (fun n _=>by simp[sets,hi];rfl) ?_;refine Wp.cond rfl (Wp.skip (Wp.seq (Wp.block (Wp.seq (Wp.seq ?_)))));refine Wp.rgn (K:=0) (s':=⟨[(0,sets l),(3,.nI i),(26,.bI (decide ((40:Int)<x.i.length)||decide ((40:Int)<x.s.length)))],[],2408⟩) (fun n hn=>by
   cases h1:decide ((40:Int)<x.i.length)<;>simp[sets,hx,S.enc,h1]) ?_
  refine Wp.cond rfl ?_;cases hb:decide ((40:Int)<x.i.length)||decide ((40:Int)<x.s.length)with
  |true=>
   refine Wp.seq ?_;refine Wp.rg ?_;refine Wp.ret ?_;have:l.all fewS=false:=all_false hx (by
    simp only[Bool.or_eq_true,decide_eq_true_eq]at hb;simp only[fewS,Bool.and_eq_false_iff,decide_eq_false_iff_not];omega)
   rw[this];rfl
  |false=>
   simp only[Bool.or_eq_false_iff,decide_eq_false_iff_not]at hb;refine Wp.skip (Wp.seq ?_);refine Wp.rg ?_;refine Wp.block ?_;refine Wp.range x.s.length (fun k=>⟨[(0,sets l),(3,.nI i),(4,.nI k)],[],2472⟩) (fun k=>(x.s.take k).all (fun t=>decide (t.size<=100))=true) rfl (by simp) ?_ ?_
   ·intro k hk hgk;obtain⟨t,ht⟩:∃t,x.s[k]?=some t:=⟨_,List.getElem?_eq_getElem hk⟩;refine Wp.seq (Wp.seq ?_);refine Wp.rgn (K:=0) (fun n _=>by simp[sets,hx,S.enc,hk];rfl) ?_;refine Wp.cond rfl (Wp.skip (Wp.seq (Wp.block (Wp.seq ?_))));refine Wp.rgn (K:=0) (s':=⟨[(0,sets l),(3,.nI i),(4,.nI k),(46,.bI (decide ((100:Int)<t.size)))],[],3624⟩) (fun n hn=>by
     simp[sets,hx,S.enc,ht,st1]) ?_
    refine Wp.cond rfl ?_;cases hb2:decide ((100:Int)<t.size)with
    |true=>
     refine Wp.seq ?_;refine Wp.rg ?_;refine Wp.ret ?_;have:l.all fewS=false:=all_false hx (by
      simp only[fewS,Bool.and_eq_false_iff];exact .inr (all_false ht (by simp only[decide_eq_true_eq,decide_eq_false_iff_not]at hb2 ⊢;omega)))
     rw[this];rfl
    |false=>
     refine Wp.skip ?_;refine Wp.rg ?_;refine⟨by simp[again,keepFr,get,nrm,sets,wrap_succ hk (show x.s.length<=maxLen by unfold maxLen;omega)],?_⟩;rw[take_succ_all ht,hgk];simp only[decide_eq_false_iff_not,Bool.true_and,decide_eq_true_eq]at hb2 ⊢;omega
   ·intro hall;refine Wp.seq (Wp.seq ?_);refine Wp.rgn (K:=0) (fun n _=>by simp[sets,hx,S.enc];rfl) ?_;refine Wp.cond rfl (Wp.exit ?_);simp only[Ex.then,Ex.inBlock,if_true];refine Wp.rg ?_;refine⟨by simp[again,keepFr,get,nrm,sets,wrap_succ hi hl],?_⟩;rw[take_succ_all hx,hg];rw[List.take_length]at hall;simp only[fewS,hall,Bool.and_true,Bool.true_and,Bool.and_eq_true,decide_eq_true_eq];omega
 ·intro hg;refine Wp.seq (Wp.seq ?_);refine Wp.rgn (K:=0) (fun n _=>by simp[sets];rfl) ?_;refine Wp.cond rfl (Wp.exit ?_);simp only[Ex.then,Ex.inBlock,if_true];refine Wp.seq ?_;refine Wp.rg ?_;refine Wp.ret ?_;rw[List.take_length]at hg;rw[hg];rfl
def fewB (b:B):Bool:=fewS b.s0&&(fewS b.s1&&(fewS b.s2&&fewS b.s3))
def few (l:List B):Bool:=decide (l.length<=20)&&l.all fewB
end
end Arb
