/-
  THE PROGRAM IS WHAT THE ABSTRACT MACHINE RUNS: function for function, checked by the kernel. Printed by tie.py.
-/
import Derived.Test.YtiggikalagohaaaGreatChecked
import Derived.KernelRfl
import Derived.Test.YtiggikalagohaaaGreatArbA
import Derived.Test.YtiggikalagohaaaGreatArbB
import Derived.Test.YtiggikalagohaaaGreatArbC
import Derived.Test.YtiggikalagohaaaGreatArbD
import Derived.Test.YtiggikalagohaaaGreatArbE
import Derived.Test.YtiggikalagohaaaGreatArbF
import Derived.Test.YtiggikalagohaaaGreatArbG
namespace Arb
open Go Go.Proofs
namespace Tied
def nus : List Nat := [0, 0, 0, 0, 6, 7, 0, 10, 15, 12, 8, 14, 20, 18, 21, 0, 22, 29, 30, 25, 37, 33, 34, 23, 24, 36, 41, 17, 35, 0, 42, 43, 51, 52, 55, 56, 54, 44, 45, 46, 47, 31, 60, 71, 53, 61, 62, 63, 72, 50, 64, 65, 66, 67, 68, 69, 70, 75, 76, 77, 78, 79, 80, 81, 82, 83, 85, 86, 87, 95, 96, 97, 103, 107, 94, 93, 92, 91, 90, 89, 88, 105, 104, 102, 101, 100, 99, 98, 116, 3, 4, 5, 9, 11, 13, 19, 26, 27, 16, 40, 38, 39, 48, 58, 59, 57, 28, 49, 73, 74, 84, 106, 32, 117, 120]
def nu (n : Nat) : Nat := nus.getD n 0
def fns : List (Nat × IFn) := [(4, F4), (5, F5), (7, F7), (8, F8), (9, F9), (10, F10), (11, F11), (12, F12), (13, F13), (14, F14), (16, F16), (17, F17), (18, F18), (19, F19), (20, F20), (21, F21), (22, F22), (23, F23), (24, F24), (25, F25), (26, F26), (27, F27), (28, F28), (30, F30), (31, F31), (32, F32), (33, F33), (34, F34), (35, F35), (36, F36), (37, F37), (38, F38), (39, F39), (40, F40), (41, F41), (42, F42), (43, F43), (44, F44), (45, F45), (46, F46), (47, F47), (48, F48), (49, F49), (50, F50), (51, F51), (52, F52), (53, F53), (54, F54), (55, F55), (56, F56), (57, F57), (58, F58), (59, F59), (61, F61), (62, F62), (63, F63), (64, F64), (65, F65), (66, F66), (68, F68), (69, F69), (70, F70), (71, F71), (72, F72), (88, F88), (91, F91), (92, F92), (93, F93), (94, F94), (95, F95), (96, F96), (97, F97), (98, F98), (99, F99), (100, F100), (101, F101), (102, F102), (103, F103), (104, F104), (105, F105), (106, F106), (107, F107), (108, F108), (109, F109), (110, F110), (111, F111), (112, F112), (113, F113), (114, F114)]
theorem c4 : oneB Tryz.prog nu Tryz.f6 F4 = true := by kernel_rfl
theorem c5 : oneB Tryz.prog nu Tryz.f7 F5 = true := by kernel_rfl
theorem c7 : oneB Tryz.prog nu Tryz.f10 F7 = true := by kernel_rfl
theorem c8 : oneB Tryz.prog nu Tryz.f15 F8 = true := by kernel_rfl
theorem c9 : oneB Tryz.prog nu Tryz.f12 F9 = true := by kernel_rfl
theorem c10 : oneB Tryz.prog nu Tryz.f8 F10 = true := by kernel_rfl
theorem c11 : oneB Tryz.prog nu Tryz.f14 F11 = true := by kernel_rfl
theorem c12 : oneB Tryz.prog nu Tryz.f20 F12 = true := by kernel_rfl
theorem c13 : oneB Tryz.prog nu Tryz.f18 F13 = true := by kernel_rfl
theorem c14 : oneB Tryz.prog nu Tryz.f21 F14 = true := by kernel_rfl
theorem c16 : oneB Tryz.prog nu Tryz.f22 F16 = true := by kernel_rfl
theorem c17 : oneB Tryz.prog nu Tryz.f29 F17 = true := by kernel_rfl
theorem c18 : oneB Tryz.prog nu Tryz.f30 F18 = true := by kernel_rfl
theorem c19 : oneB Tryz.prog nu Tryz.f25 F19 = true := by kernel_rfl
theorem c20 : oneB Tryz.prog nu Tryz.f37 F20 = true := by kernel_rfl
theorem c21 : oneB Tryz.prog nu Tryz.f33 F21 = true := by kernel_rfl
theorem c22 : oneB Tryz.prog nu Tryz.f34 F22 = true := by kernel_rfl
theorem c23 : oneB Tryz.prog nu Tryz.f23 F23 = true := by kernel_rfl
theorem c24 : oneB Tryz.prog nu Tryz.f24 F24 = true := by kernel_rfl
theorem c25 : oneB Tryz.prog nu Tryz.f36 F25 = true := by kernel_rfl
theorem c26 : oneB Tryz.prog nu Tryz.f41 F26 = true := by kernel_rfl
theorem c27 : oneB Tryz.prog nu Tryz.f17 F27 = true := by kernel_rfl
theorem c28 : oneB Tryz.prog nu Tryz.f35 F28 = true := by kernel_rfl
theorem c30 : oneB Tryz.prog nu Tryz.f42 F30 = true := by kernel_rfl
theorem c31 : oneB Tryz.prog nu Tryz.f43 F31 = true := by kernel_rfl
theorem c32 : oneB Tryz.prog nu Tryz.f51 F32 = true := by kernel_rfl
theorem c33 : oneB Tryz.prog nu Tryz.f52 F33 = true := by kernel_rfl
theorem c34 : oneB Tryz.prog nu Tryz.f55 F34 = true := by kernel_rfl
theorem c35 : oneB Tryz.prog nu Tryz.f56 F35 = true := by kernel_rfl
theorem c36 : oneB Tryz.prog nu Tryz.f54 F36 = true := by kernel_rfl
theorem c37 : oneB Tryz.prog nu Tryz.f44 F37 = true := by kernel_rfl
theorem c38 : oneB Tryz.prog nu Tryz.f45 F38 = true := by kernel_rfl
theorem c39 : oneB Tryz.prog nu Tryz.f46 F39 = true := by kernel_rfl
theorem c40 : oneB Tryz.prog nu Tryz.f47 F40 = true := by kernel_rfl
theorem c41 : oneB Tryz.prog nu Tryz.f31 F41 = true := by kernel_rfl
theorem c42 : oneB Tryz.prog nu Tryz.f60 F42 = true := by kernel_rfl
theorem c43 : oneB Tryz.prog nu Tryz.f71 F43 = true := by kernel_rfl
theorem c44 : oneB Tryz.prog nu Tryz.f53 F44 = true := by kernel_rfl
theorem c45 : oneB Tryz.prog nu Tryz.f61 F45 = true := by kernel_rfl
theorem c46 : oneB Tryz.prog nu Tryz.f62 F46 = true := by kernel_rfl
theorem c47 : oneB Tryz.prog nu Tryz.f63 F47 = true := by kernel_rfl
theorem c48 : oneB Tryz.prog nu Tryz.f72 F48 = true := by kernel_rfl
theorem c49 : oneB Tryz.prog nu Tryz.f50 F49 = true := by kernel_rfl
theorem c50 : oneB Tryz.prog nu Tryz.f64 F50 = true := by kernel_rfl
theorem c51 : oneB Tryz.prog nu Tryz.f65 F51 = true := by kernel_rfl
theorem c52 : oneB Tryz.prog nu Tryz.f66 F52 = true := by kernel_rfl
theorem c53 : oneB Tryz.prog nu Tryz.f67 F53 = true := by kernel_rfl
theorem c54 : oneB Tryz.prog nu Tryz.f68 F54 = true := by kernel_rfl
theorem c55 : oneB Tryz.prog nu Tryz.f69 F55 = true := by kernel_rfl
theorem c56 : oneB Tryz.prog nu Tryz.f70 F56 = true := by kernel_rfl
theorem c57 : oneB Tryz.prog nu Tryz.f75 F57 = true := by kernel_rfl
theorem c58 : oneB Tryz.prog nu Tryz.f76 F58 = true := by kernel_rfl
theorem c59 : oneB Tryz.prog nu Tryz.f77 F59 = true := by kernel_rfl
theorem c61 : oneB Tryz.prog nu Tryz.f79 F61 = true := by kernel_rfl
theorem c62 : oneB Tryz.prog nu Tryz.f80 F62 = true := by kernel_rfl
theorem c63 : oneB Tryz.prog nu Tryz.f81 F63 = true := by kernel_rfl
theorem c64 : oneB Tryz.prog nu Tryz.f82 F64 = true := by kernel_rfl
theorem c65 : oneB Tryz.prog nu Tryz.f83 F65 = true := by kernel_rfl
theorem c66 : oneB Tryz.prog nu Tryz.f85 F66 = true := by kernel_rfl
theorem c68 : oneB Tryz.prog nu Tryz.f87 F68 = true := by kernel_rfl
theorem c69 : oneB Tryz.prog nu Tryz.f95 F69 = true := by kernel_rfl
theorem c70 : oneB Tryz.prog nu Tryz.f96 F70 = true := by kernel_rfl
theorem c71 : oneB Tryz.prog nu Tryz.f97 F71 = true := by kernel_rfl
theorem c72 : oneB Tryz.prog nu Tryz.f103 F72 = true := by kernel_rfl
theorem c88 : oneB Tryz.prog nu Tryz.f116 F88 = true := by kernel_rfl
theorem c91 : oneB Tryz.prog nu Tryz.f5 F91 = true := by kernel_rfl
theorem c92 : oneB Tryz.prog nu Tryz.f9 F92 = true := by kernel_rfl
theorem c93 : oneB Tryz.prog nu Tryz.f11 F93 = true := by kernel_rfl
theorem c94 : oneB Tryz.prog nu Tryz.f13 F94 = true := by kernel_rfl
theorem c95 : oneB Tryz.prog nu Tryz.f19 F95 = true := by kernel_rfl
theorem c96 : oneB Tryz.prog nu Tryz.f26 F96 = true := by kernel_rfl
theorem c97 : oneB Tryz.prog nu Tryz.f27 F97 = true := by kernel_rfl
theorem c98 : oneB Tryz.prog nu Tryz.f16 F98 = true := by kernel_rfl
theorem c99 : oneB Tryz.prog nu Tryz.f40 F99 = true := by kernel_rfl
theorem c100 : oneB Tryz.prog nu Tryz.f38 F100 = true := by kernel_rfl
theorem c101 : oneB Tryz.prog nu Tryz.f39 F101 = true := by kernel_rfl
theorem c102 : oneB Tryz.prog nu Tryz.f48 F102 = true := by kernel_rfl
theorem c103 : oneB Tryz.prog nu Tryz.f58 F103 = true := by kernel_rfl
theorem c104 : oneB Tryz.prog nu Tryz.f59 F104 = true := by kernel_rfl
theorem c105 : oneB Tryz.prog nu Tryz.f57 F105 = true := by kernel_rfl
theorem c106 : oneB Tryz.prog nu Tryz.f28 F106 = true := by kernel_rfl
theorem c107 : oneB Tryz.prog nu Tryz.f49 F107 = true := by kernel_rfl
theorem c108 : oneB Tryz.prog nu Tryz.f73 F108 = true := by kernel_rfl
theorem c109 : oneB Tryz.prog nu Tryz.f74 F109 = true := by kernel_rfl
theorem c110 : oneB Tryz.prog nu Tryz.f84 F110 = true := by kernel_rfl
theorem c111 : oneB Tryz.prog nu Tryz.f106 F111 = true := by kernel_rfl
theorem c112 : oneB Tryz.prog nu Tryz.f32 F112 = true := by kernel_rfl
theorem c113 : oneB Tryz.prog nu Tryz.f117 F113 = true := by kernel_rfl
theorem c114 : oneB Tryz.prog nu Tryz.f120 F114 = true := by kernel_rfl
theorem mixed : Tryz.prog.follows .mixedOrders = true := Tryz.checked.mixed
theorem tie : Tie Tryz.prog nu (get fns) :=
  tie_cons (tie_at Tryz.func6 (by kernel_rfl) c4) <|
  tie_cons (tie_at Tryz.func7 (by kernel_rfl) c5) <|
  tie_cons (tie_at Tryz.func10 (by kernel_rfl) c7) <|
  tie_cons (tie_at Tryz.func15 (by kernel_rfl) c8) <|
  tie_cons (tie_at Tryz.func12 (by kernel_rfl) c9) <|
  tie_cons (tie_at Tryz.func8 (by kernel_rfl) c10) <|
  tie_cons (tie_at Tryz.func14 (by kernel_rfl) c11) <|
  tie_cons (tie_at Tryz.func20 (by kernel_rfl) c12) <|
  tie_cons (tie_at Tryz.func18 (by kernel_rfl) c13) <|
  tie_cons (tie_at Tryz.func21 (by kernel_rfl) c14) <|
  tie_cons (tie_at Tryz.func22 (by kernel_rfl) c16) <|
  tie_cons (tie_at Tryz.func29 (by kernel_rfl) c17) <|
  tie_cons (tie_at Tryz.func30 (by kernel_rfl) c18) <|
  tie_cons (tie_at Tryz.func25 (by kernel_rfl) c19) <|
  tie_cons (tie_at Tryz.func37 (by kernel_rfl) c20) <|
  tie_cons (tie_at Tryz.func33 (by kernel_rfl) c21) <|
  tie_cons (tie_at Tryz.func34 (by kernel_rfl) c22) <|
  tie_cons (tie_at Tryz.func23 (by kernel_rfl) c23) <|
  tie_cons (tie_at Tryz.func24 (by kernel_rfl) c24) <|
  tie_cons (tie_at Tryz.func36 (by kernel_rfl) c25) <|
  tie_cons (tie_at Tryz.func41 (by kernel_rfl) c26) <|
  tie_cons (tie_at Tryz.func17 (by kernel_rfl) c27) <|
  tie_cons (tie_at Tryz.func35 (by kernel_rfl) c28) <|
  tie_cons (tie_at Tryz.func42 (by kernel_rfl) c30) <|
  tie_cons (tie_at Tryz.func43 (by kernel_rfl) c31) <|
  tie_cons (tie_at Tryz.func51 (by kernel_rfl) c32) <|
  tie_cons (tie_at Tryz.func52 (by kernel_rfl) c33) <|
  tie_cons (tie_at Tryz.func55 (by kernel_rfl) c34) <|
  tie_cons (tie_at Tryz.func56 (by kernel_rfl) c35) <|
  tie_cons (tie_at Tryz.func54 (by kernel_rfl) c36) <|
  tie_cons (tie_at Tryz.func44 (by kernel_rfl) c37) <|
  tie_cons (tie_at Tryz.func45 (by kernel_rfl) c38) <|
  tie_cons (tie_at Tryz.func46 (by kernel_rfl) c39) <|
  tie_cons (tie_at Tryz.func47 (by kernel_rfl) c40) <|
  tie_cons (tie_at Tryz.func31 (by kernel_rfl) c41) <|
  tie_cons (tie_at Tryz.func60 (by kernel_rfl) c42) <|
  tie_cons (tie_at Tryz.func71 (by kernel_rfl) c43) <|
  tie_cons (tie_at Tryz.func53 (by kernel_rfl) c44) <|
  tie_cons (tie_at Tryz.func61 (by kernel_rfl) c45) <|
  tie_cons (tie_at Tryz.func62 (by kernel_rfl) c46) <|
  tie_cons (tie_at Tryz.func63 (by kernel_rfl) c47) <|
  tie_cons (tie_at Tryz.func72 (by kernel_rfl) c48) <|
  tie_cons (tie_at Tryz.func50 (by kernel_rfl) c49) <|
  tie_cons (tie_at Tryz.func64 (by kernel_rfl) c50) <|
  tie_cons (tie_at Tryz.func65 (by kernel_rfl) c51) <|
  tie_cons (tie_at Tryz.func66 (by kernel_rfl) c52) <|
  tie_cons (tie_at Tryz.func67 (by kernel_rfl) c53) <|
  tie_cons (tie_at Tryz.func68 (by kernel_rfl) c54) <|
  tie_cons (tie_at Tryz.func69 (by kernel_rfl) c55) <|
  tie_cons (tie_at Tryz.func70 (by kernel_rfl) c56) <|
  tie_cons (tie_at Tryz.func75 (by kernel_rfl) c57) <|
  tie_cons (tie_at Tryz.func76 (by kernel_rfl) c58) <|
  tie_cons (tie_at Tryz.func77 (by kernel_rfl) c59) <|
  tie_cons (tie_at Tryz.func79 (by kernel_rfl) c61) <|
  tie_cons (tie_at Tryz.func80 (by kernel_rfl) c62) <|
  tie_cons (tie_at Tryz.func81 (by kernel_rfl) c63) <|
  tie_cons (tie_at Tryz.func82 (by kernel_rfl) c64) <|
  tie_cons (tie_at Tryz.func83 (by kernel_rfl) c65) <|
  tie_cons (tie_at Tryz.func85 (by kernel_rfl) c66) <|
  tie_cons (tie_at Tryz.func87 (by kernel_rfl) c68) <|
  tie_cons (tie_at Tryz.func95 (by kernel_rfl) c69) <|
  tie_cons (tie_at Tryz.func96 (by kernel_rfl) c70) <|
  tie_cons (tie_at Tryz.func97 (by kernel_rfl) c71) <|
  tie_cons (tie_at Tryz.func103 (by kernel_rfl) c72) <|
  tie_cons (tie_at Tryz.func116 (by kernel_rfl) c88) <|
  tie_cons (tie_at Tryz.func5 (by kernel_rfl) c91) <|
  tie_cons (tie_at Tryz.func9 (by kernel_rfl) c92) <|
  tie_cons (tie_at Tryz.func11 (by kernel_rfl) c93) <|
  tie_cons (tie_at Tryz.func13 (by kernel_rfl) c94) <|
  tie_cons (tie_at Tryz.func19 (by kernel_rfl) c95) <|
  tie_cons (tie_at Tryz.func26 (by kernel_rfl) c96) <|
  tie_cons (tie_at Tryz.func27 (by kernel_rfl) c97) <|
  tie_cons (tie_at Tryz.func16 (by kernel_rfl) c98) <|
  tie_cons (tie_at Tryz.func40 (by kernel_rfl) c99) <|
  tie_cons (tie_at Tryz.func38 (by kernel_rfl) c100) <|
  tie_cons (tie_at Tryz.func39 (by kernel_rfl) c101) <|
  tie_cons (tie_at Tryz.func48 (by kernel_rfl) c102) <|
  tie_cons (tie_at Tryz.func58 (by kernel_rfl) c103) <|
  tie_cons (tie_at Tryz.func59 (by kernel_rfl) c104) <|
  tie_cons (tie_at Tryz.func57 (by kernel_rfl) c105) <|
  tie_cons (tie_at Tryz.func28 (by kernel_rfl) c106) <|
  tie_cons (tie_at Tryz.func49 (by kernel_rfl) c107) <|
  tie_cons (tie_at Tryz.func73 (by kernel_rfl) c108) <|
  tie_cons (tie_at Tryz.func74 (by kernel_rfl) c109) <|
  tie_cons (tie_at Tryz.func84 (by kernel_rfl) c110) <|
  tie_cons (tie_at Tryz.func106 (by kernel_rfl) c111) <|
  tie_cons (tie_at Tryz.func32 (by kernel_rfl) c112) <|
  tie_cons (tie_at Tryz.func117 (by kernel_rfl) c113) <|
  tie_cons (tie_at Tryz.func120 (by kernel_rfl) c114) <|
  tie_nil
end Tied
end Arb
