/-
  THE PROGRAM IS WHAT THE ABSTRACT MACHINE RUNS: function for function, checked by the kernel. Printed by tie.py.
-/
import Derived.Test.YtiggikalagohaaaChecked
import Derived.KernelRfl
import Derived.Test.YtiggikalagohaaaArbA
import Derived.Test.YtiggikalagohaaaArbB
import Derived.Test.YtiggikalagohaaaArbC
import Derived.Test.YtiggikalagohaaaArbD
import Derived.Test.YtiggikalagohaaaArbE
namespace Arb
open Go Go.Proofs
namespace Tied
def nus : List Nat := [3, 4, 5, 6, 7, 8, 9, 10, 11, 12, 13, 14, 15, 16, 17, 18, 19, 20, 21, 22, 23, 24, 25, 26, 27, 28, 29, 30, 31, 32, 33, 34, 35, 36, 37, 38, 39, 40, 41, 42, 43, 44, 45, 46, 47, 48, 49, 50, 51, 52, 53, 54, 55, 56, 57, 58, 59, 60, 61, 62, 63, 64, 65, 66, 67, 68, 69, 70, 71, 79, 80, 81, 87, 90, 78, 77, 76, 75, 74, 73, 72, 89, 88, 86, 85, 84, 83, 82, 99]
def nu (n : Nat) : Nat := nus.getD n 0
def fns : List (Nat × IFn) := [(0, F0), (1, F1), (2, F2), (3, F3), (4, F4), (5, F5), (6, F6), (7, F7), (8, F8), (9, F9), (10, F10), (11, F11), (12, F12), (13, F13), (14, F14), (15, F15), (16, F16), (17, F17), (18, F18), (19, F19), (20, F20), (21, F21), (22, F22), (23, F23), (24, F24), (25, F25), (26, F26), (27, F27), (28, F28), (29, F29), (30, F30), (31, F31), (32, F32), (33, F33), (34, F34), (35, F35), (36, F36), (37, F37), (38, F38), (39, F39), (40, F40), (41, F41), (42, F42), (43, F43), (44, F44), (45, F45), (46, F46), (47, F47), (48, F48), (49, F49), (50, F50), (51, F51), (52, F52), (53, F53), (54, F54), (55, F55), (56, F56), (57, F57), (58, F58), (59, F59), (60, F60), (61, F61), (62, F62), (63, F63), (64, F64), (65, F65), (66, F66), (67, F67), (68, F68), (69, F69), (70, F70), (71, F71), (72, F72), (73, F73), (88, F88)]
theorem c0 : oneB Try.prog nu Try.f3 F0 = true := by kernel_rfl
theorem c1 : oneB Try.prog nu Try.f4 F1 = true := by kernel_rfl
theorem c2 : oneB Try.prog nu Try.f5 F2 = true := by kernel_rfl
theorem c3 : oneB Try.prog nu Try.f6 F3 = true := by kernel_rfl
theorem c4 : oneB Try.prog nu Try.f7 F4 = true := by kernel_rfl
theorem c5 : oneB Try.prog nu Try.f8 F5 = true := by kernel_rfl
theorem c6 : oneB Try.prog nu Try.f9 F6 = true := by kernel_rfl
theorem c7 : oneB Try.prog nu Try.f10 F7 = true := by kernel_rfl
theorem c8 : oneB Try.prog nu Try.f11 F8 = true := by kernel_rfl
theorem c9 : oneB Try.prog nu Try.f12 F9 = true := by kernel_rfl
theorem c10 : oneB Try.prog nu Try.f13 F10 = true := by kernel_rfl
theorem c11 : oneB Try.prog nu Try.f14 F11 = true := by kernel_rfl
theorem c12 : oneB Try.prog nu Try.f15 F12 = true := by kernel_rfl
theorem c13 : oneB Try.prog nu Try.f16 F13 = true := by kernel_rfl
theorem c14 : oneB Try.prog nu Try.f17 F14 = true := by kernel_rfl
theorem c15 : oneB Try.prog nu Try.f18 F15 = true := by kernel_rfl
theorem c16 : oneB Try.prog nu Try.f19 F16 = true := by kernel_rfl
theorem c17 : oneB Try.prog nu Try.f20 F17 = true := by kernel_rfl
theorem c18 : oneB Try.prog nu Try.f21 F18 = true := by kernel_rfl
theorem c19 : oneB Try.prog nu Try.f22 F19 = true := by kernel_rfl
theorem c20 : oneB Try.prog nu Try.f23 F20 = true := by kernel_rfl
theorem c21 : oneB Try.prog nu Try.f24 F21 = true := by kernel_rfl
theorem c22 : oneB Try.prog nu Try.f25 F22 = true := by kernel_rfl
theorem c23 : oneB Try.prog nu Try.f26 F23 = true := by kernel_rfl
theorem c24 : oneB Try.prog nu Try.f27 F24 = true := by kernel_rfl
theorem c25 : oneB Try.prog nu Try.f28 F25 = true := by kernel_rfl
theorem c26 : oneB Try.prog nu Try.f29 F26 = true := by kernel_rfl
theorem c27 : oneB Try.prog nu Try.f30 F27 = true := by kernel_rfl
theorem c28 : oneB Try.prog nu Try.f31 F28 = true := by kernel_rfl
theorem c29 : oneB Try.prog nu Try.f32 F29 = true := by kernel_rfl
theorem c30 : oneB Try.prog nu Try.f33 F30 = true := by kernel_rfl
theorem c31 : oneB Try.prog nu Try.f34 F31 = true := by kernel_rfl
theorem c32 : oneB Try.prog nu Try.f35 F32 = true := by kernel_rfl
theorem c33 : oneB Try.prog nu Try.f36 F33 = true := by kernel_rfl
theorem c34 : oneB Try.prog nu Try.f37 F34 = true := by kernel_rfl
theorem c35 : oneB Try.prog nu Try.f38 F35 = true := by kernel_rfl
theorem c36 : oneB Try.prog nu Try.f39 F36 = true := by kernel_rfl
theorem c37 : oneB Try.prog nu Try.f40 F37 = true := by kernel_rfl
theorem c38 : oneB Try.prog nu Try.f41 F38 = true := by kernel_rfl
theorem c39 : oneB Try.prog nu Try.f42 F39 = true := by kernel_rfl
theorem c40 : oneB Try.prog nu Try.f43 F40 = true := by kernel_rfl
theorem c41 : oneB Try.prog nu Try.f44 F41 = true := by kernel_rfl
theorem c42 : oneB Try.prog nu Try.f45 F42 = true := by kernel_rfl
theorem c43 : oneB Try.prog nu Try.f46 F43 = true := by kernel_rfl
theorem c44 : oneB Try.prog nu Try.f47 F44 = true := by kernel_rfl
theorem c45 : oneB Try.prog nu Try.f48 F45 = true := by kernel_rfl
theorem c46 : oneB Try.prog nu Try.f49 F46 = true := by kernel_rfl
theorem c47 : oneB Try.prog nu Try.f50 F47 = true := by kernel_rfl
theorem c48 : oneB Try.prog nu Try.f51 F48 = true := by kernel_rfl
theorem c49 : oneB Try.prog nu Try.f52 F49 = true := by kernel_rfl
theorem c50 : oneB Try.prog nu Try.f53 F50 = true := by kernel_rfl
theorem c51 : oneB Try.prog nu Try.f54 F51 = true := by kernel_rfl
theorem c52 : oneB Try.prog nu Try.f55 F52 = true := by kernel_rfl
theorem c53 : oneB Try.prog nu Try.f56 F53 = true := by kernel_rfl
theorem c54 : oneB Try.prog nu Try.f57 F54 = true := by kernel_rfl
theorem c55 : oneB Try.prog nu Try.f58 F55 = true := by kernel_rfl
theorem c56 : oneB Try.prog nu Try.f59 F56 = true := by kernel_rfl
theorem c57 : oneB Try.prog nu Try.f60 F57 = true := by kernel_rfl
theorem c58 : oneB Try.prog nu Try.f61 F58 = true := by kernel_rfl
theorem c59 : oneB Try.prog nu Try.f62 F59 = true := by kernel_rfl
theorem c60 : oneB Try.prog nu Try.f63 F60 = true := by kernel_rfl
theorem c61 : oneB Try.prog nu Try.f64 F61 = true := by kernel_rfl
theorem c62 : oneB Try.prog nu Try.f65 F62 = true := by kernel_rfl
theorem c63 : oneB Try.prog nu Try.f66 F63 = true := by kernel_rfl
theorem c64 : oneB Try.prog nu Try.f67 F64 = true := by kernel_rfl
theorem c65 : oneB Try.prog nu Try.f68 F65 = true := by kernel_rfl
theorem c66 : oneB Try.prog nu Try.f69 F66 = true := by kernel_rfl
theorem c67 : oneB Try.prog nu Try.f70 F67 = true := by kernel_rfl
theorem c68 : oneB Try.prog nu Try.f71 F68 = true := by kernel_rfl
theorem c69 : oneB Try.prog nu Try.f79 F69 = true := by kernel_rfl
theorem c70 : oneB Try.prog nu Try.f80 F70 = true := by kernel_rfl
theorem c71 : oneB Try.prog nu Try.f81 F71 = true := by kernel_rfl
theorem c72 : oneB Try.prog nu Try.f87 F72 = true := by kernel_rfl
theorem c73 : oneB Try.prog nu Try.f90 F73 = true := by kernel_rfl
theorem c88 : oneB Try.prog nu Try.f99 F88 = true := by kernel_rfl
theorem mixed : Try.prog.follows .mixedOrders = true := Try.checked.mixed
theorem tie : Tie Try.prog nu (get fns) :=
  tie_cons (tie_at Try.func3 (by kernel_rfl) c0) <|
  tie_cons (tie_at Try.func4 (by kernel_rfl) c1) <|
  tie_cons (tie_at Try.func5 (by kernel_rfl) c2) <|
  tie_cons (tie_at Try.func6 (by kernel_rfl) c3) <|
  tie_cons (tie_at Try.func7 (by kernel_rfl) c4) <|
  tie_cons (tie_at Try.func8 (by kernel_rfl) c5) <|
  tie_cons (tie_at Try.func9 (by kernel_rfl) c6) <|
  tie_cons (tie_at Try.func10 (by kernel_rfl) c7) <|
  tie_cons (tie_at Try.func11 (by kernel_rfl) c8) <|
  tie_cons (tie_at Try.func12 (by kernel_rfl) c9) <|
  tie_cons (tie_at Try.func13 (by kernel_rfl) c10) <|
  tie_cons (tie_at Try.func14 (by kernel_rfl) c11) <|
  tie_cons (tie_at Try.func15 (by kernel_rfl) c12) <|
  tie_cons (tie_at Try.func16 (by kernel_rfl) c13) <|
  tie_cons (tie_at Try.func17 (by kernel_rfl) c14) <|
  tie_cons (tie_at Try.func18 (by kernel_rfl) c15) <|
  tie_cons (tie_at Try.func19 (by kernel_rfl) c16) <|
  tie_cons (tie_at Try.func20 (by kernel_rfl) c17) <|
  tie_cons (tie_at Try.func21 (by kernel_rfl) c18) <|
  tie_cons (tie_at Try.func22 (by kernel_rfl) c19) <|
  tie_cons (tie_at Try.func23 (by kernel_rfl) c20) <|
  tie_cons (tie_at Try.func24 (by kernel_rfl) c21) <|
  tie_cons (tie_at Try.func25 (by kernel_rfl) c22) <|
  tie_cons (tie_at Try.func26 (by kernel_rfl) c23) <|
  tie_cons (tie_at Try.func27 (by kernel_rfl) c24) <|
  tie_cons (tie_at Try.func28 (by kernel_rfl) c25) <|
  tie_cons (tie_at Try.func29 (by kernel_rfl) c26) <|
  tie_cons (tie_at Try.func30 (by kernel_rfl) c27) <|
  tie_cons (tie_at Try.func31 (by kernel_rfl) c28) <|
  tie_cons (tie_at Try.func32 (by kernel_rfl) c29) <|
  tie_cons (tie_at Try.func33 (by kernel_rfl) c30) <|
  tie_cons (tie_at Try.func34 (by kernel_rfl) c31) <|
  tie_cons (tie_at Try.func35 (by kernel_rfl) c32) <|
  tie_cons (tie_at Try.func36 (by kernel_rfl) c33) <|
  tie_cons (tie_at Try.func37 (by kernel_rfl) c34) <|
  tie_cons (tie_at Try.func38 (by kernel_rfl) c35) <|
  tie_cons (tie_at Try.func39 (by kernel_rfl) c36) <|
  tie_cons (tie_at Try.func40 (by kernel_rfl) c37) <|
  tie_cons (tie_at Try.func41 (by kernel_rfl) c38) <|
  tie_cons (tie_at Try.func42 (by kernel_rfl) c39) <|
  tie_cons (tie_at Try.func43 (by kernel_rfl) c40) <|
  tie_cons (tie_at Try.func44 (by kernel_rfl) c41) <|
  tie_cons (tie_at Try.func45 (by kernel_rfl) c42) <|
  tie_cons (tie_at Try.func46 (by kernel_rfl) c43) <|
  tie_cons (tie_at Try.func47 (by kernel_rfl) c44) <|
  tie_cons (tie_at Try.func48 (by kernel_rfl) c45) <|
  tie_cons (tie_at Try.func49 (by kernel_rfl) c46) <|
  tie_cons (tie_at Try.func50 (by kernel_rfl) c47) <|
  tie_cons (tie_at Try.func51 (by kernel_rfl) c48) <|
  tie_cons (tie_at Try.func52 (by kernel_rfl) c49) <|
  tie_cons (tie_at Try.func53 (by kernel_rfl) c50) <|
  tie_cons (tie_at Try.func54 (by kernel_rfl) c51) <|
  tie_cons (tie_at Try.func55 (by kernel_rfl) c52) <|
  tie_cons (tie_at Try.func56 (by kernel_rfl) c53) <|
  tie_cons (tie_at Try.func57 (by kernel_rfl) c54) <|
  tie_cons (tie_at Try.func58 (by kernel_rfl) c55) <|
  tie_cons (tie_at Try.func59 (by kernel_rfl) c56) <|
  tie_cons (tie_at Try.func60 (by kernel_rfl) c57) <|
  tie_cons (tie_at Try.func61 (by kernel_rfl) c58) <|
  tie_cons (tie_at Try.func62 (by kernel_rfl) c59) <|
  tie_cons (tie_at Try.func63 (by kernel_rfl) c60) <|
  tie_cons (tie_at Try.func64 (by kernel_rfl) c61) <|
  tie_cons (tie_at Try.func65 (by kernel_rfl) c62) <|
  tie_cons (tie_at Try.func66 (by kernel_rfl) c63) <|
  tie_cons (tie_at Try.func67 (by kernel_rfl) c64) <|
  tie_cons (tie_at Try.func68 (by kernel_rfl) c65) <|
  tie_cons (tie_at Try.func69 (by kernel_rfl) c66) <|
  tie_cons (tie_at Try.func70 (by kernel_rfl) c67) <|
  tie_cons (tie_at Try.func71 (by kernel_rfl) c68) <|
  tie_cons (tie_at Try.func79 (by kernel_rfl) c69) <|
  tie_cons (tie_at Try.func80 (by kernel_rfl) c70) <|
  tie_cons (tie_at Try.func81 (by kernel_rfl) c71) <|
  tie_cons (tie_at Try.func87 (by kernel_rfl) c72) <|
  tie_cons (tie_at Try.func90 (by kernel_rfl) c73) <|
  tie_cons (tie_at Try.func99 (by kernel_rfl) c88) <|
  tie_nil
end Tied
end Arb
