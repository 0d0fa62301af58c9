/-
  THE PROGRAM IS WHAT THE TWO ABSTRACT MACHINES RUN: function for function, checked by the kernel. Printed by tie2.py.
-/
import Derived.Test.YtngjdhmpcgifbaaGreatChecked
import Derived.KernelRfl
import Derived.Test.YtngjdhmpcgifbaaGreatArbA
import Derived.Test.YtngjdhmpcgifbaaGreatArbB
import Derived.Test.YtngjdhmpcgifbaaGreatArbC
import Derived.Test.YtngjdhmpcgifbaaGreatArbD
import Derived.Test.YtngjdhmpcgifbaaGreatArbE
import Derived.Test.YtngjdhmpcgifbaaGreatArbF
import Derived.Test.YtngjdhmpcgifbaaGreatArbG
import Derived.Test.YtngjdhmpcgifbaaGreatArbH
import Derived.Test.YtngjdhmpcgifbaaGreatArbI
namespace Arx
open Go Go.Proofs
namespace Tied
def nus : List Nat := [0, 0, 0, 0, 0, 0, 0, 0, 39, 0, 0, 0, 0, 0, 0, 0, 0, 194, 0, 162, 74, 0, 0, 219, 169, 0, 134, 104, 0, 0, 107, 0, 213, 214, 38, 102, 117, 164, 197, 237, 238, 154, 136, 73, 0, 139, 140, 133, 129, 130, 198, 199, 200, 151, 143, 245, 246, 165, 168, 160, 161, 216, 217, 218, 190, 249, 195, 196, 227, 235, 236, 250, 256, 215, 234, 233, 232, 231, 230, 229, 228, 258, 257, 255, 254, 253, 252, 251, 262, 0, 0, 0, 0, 0, 0, 0, 0, 0, 101, 125, 127, 128, 0, 155, 156, 152, 153, 0, 191, 192, 212, 226, 0, 239, 247, 166, 97, 221, 225, 63, 96, 137, 93, 57, 118, 148, 201, 120, 150, 135, 163, 58, 103, 90, 91, 115, 146, 60, 94, 31, 170, 149, 67, 64, 95, 54, 66, 108, 189, 98, 61, 119, 89, 9, 12, 15, 18, 17, 7, 8, 16, 37, 72, 71, 70, 100, 99, 121, 122, 77, 78, 11, 27, 26, 56, 55, 32, 28, 92, 116, 147, 36, 69, 59, 80, 106, 105, 138, 167, 132, 131, 158, 159, 53, 88, 33, 68, 30, 29, 65, 62, 20, 42, 41, 79, 14, 13, 10, 35, 34, 22, 23, 24, 25, 21, 19, 48, 52, 87, 51, 40, 76, 75, 49, 50, 86, 43, 44, 45, 46, 47, 82, 110, 109, 81, 85, 84, 83, 113, 145, 187, 188, 172, 183, 185, 184, 186, 182, 181, 208, 203, 202, 210, 211, 209, 224, 223, 112, 111, 141, 171, 144, 142, 177, 174, 178, 179, 175, 173, 176, 205, 206, 204, 207, 222, 6, 4, 5, 3, 126, 123, 157, 193, 124]
def nu (n : Nat) : Nat := if n = tyBld then 262 else if n = tyByte then 5 else nus.getD n 0
def fns1 : List (Nat × Arb.IFn) := [(27, Arb.F27), (131, Arb.F131), (132, Arb.F132), (133, Arb.F133), (134, Arb.F134), (135, Arb.F135), (137, Arb.F137), (138, Arb.F138), (169, Arb.F169), (170, Arb.F170), (201, Arb.F201), (202, Arb.F202), (203, Arb.F203), (204, Arb.F204)]
def fns2 : List (Nat × IFn) := [(54, F54), (140, F140), (147, F147), (210, F210), (211, F211), (212, F212), (213, F213), (214, F214), (215, F215), (217, F217), (218, F218), (219, F219), (220, F220), (221, F221), (222, F222), (223, F223), (224, F224), (225, F225), (228, F228), (230, F230), (235, F235), (236, F236), (237, F237), (238, F238), (239, F239), (240, F240), (241, F241), (242, F242), (244, F244), (245, F245), (247, F247), (248, F248), (249, F249), (251, F251), (257, F257), (258, F258), (259, F259), (261, F261), (262, F262), (263, F263), (264, F264), (265, F265), (267, F267), (268, F268), (269, F269), (272, F272), (275, F275)]
theorem mixed : Tryz.prog.follows .mixedOrders = true := Tryz.checked.mixed
theorem a27 : Arb.oneB Tryz.prog nu Tryz.f104 Arb.F27 = true := by kernel_rfl
theorem a131 : Arb.oneB Tryz.prog nu Tryz.f58 Arb.F131 = true := by kernel_rfl
theorem a132 : Arb.oneB Tryz.prog nu Tryz.f103 Arb.F132 = true := by kernel_rfl
theorem a133 : Arb.oneB Tryz.prog nu Tryz.f90 Arb.F133 = true := by kernel_rfl
theorem a134 : Arb.oneB Tryz.prog nu Tryz.f91 Arb.F134 = true := by kernel_rfl
theorem a135 : Arb.oneB Tryz.prog nu Tryz.f115 Arb.F135 = true := by kernel_rfl
theorem a137 : Arb.oneB Tryz.prog nu Tryz.f60 Arb.F137 = true := by kernel_rfl
theorem a138 : Arb.oneB Tryz.prog nu Tryz.f94 Arb.F138 = true := by kernel_rfl
theorem a169 : Arb.oneB Tryz.prog nu Tryz.f77 Arb.F169 = true := by kernel_rfl
theorem a170 : Arb.oneB Tryz.prog nu Tryz.f78 Arb.F170 = true := by kernel_rfl
theorem a201 : Arb.oneB Tryz.prog nu Tryz.f20 Arb.F201 = true := by kernel_rfl
theorem a202 : Arb.oneB Tryz.prog nu Tryz.f42 Arb.F202 = true := by kernel_rfl
theorem a203 : Arb.oneB Tryz.prog nu Tryz.f41 Arb.F203 = true := by kernel_rfl
theorem a204 : Arb.oneB Tryz.prog nu Tryz.f79 Arb.F204 = true := by kernel_rfl
theorem b54 : cloneB Tryz.prog nu Tryz.f143 1 = true := by kernel_rfl
theorem b140 : oneB Tryz.prog nu Tryz.f170 F140 = true := by kernel_rfl
theorem b147 : oneB Tryz.prog nu Tryz.f108 F147 = true := by kernel_rfl
theorem b210 : oneB Tryz.prog nu Tryz.f22 F210 = true := by kernel_rfl
theorem b211 : oneB Tryz.prog nu Tryz.f23 F211 = true := by kernel_rfl
theorem b212 : oneB Tryz.prog nu Tryz.f24 F212 = true := by kernel_rfl
theorem b213 : oneB Tryz.prog nu Tryz.f25 F213 = true := by kernel_rfl
theorem b214 : oneB Tryz.prog nu Tryz.f21 F214 = true := by kernel_rfl
theorem b215 : oneB Tryz.prog nu Tryz.f19 F215 = true := by kernel_rfl
theorem b217 : oneB Tryz.prog nu Tryz.f52 F217 = true := by kernel_rfl
theorem b218 : oneB Tryz.prog nu Tryz.f87 F218 = true := by kernel_rfl
theorem b219 : totalB Tryz.prog nu Tryz.f51 = true := by kernel_rfl
theorem b220 : oneB Tryz.prog nu Tryz.f40 F220 = true := by kernel_rfl
theorem b221 : oneB Tryz.prog nu Tryz.f76 F221 = true := by kernel_rfl
theorem b222 : oneB Tryz.prog nu Tryz.f75 F222 = true := by kernel_rfl
theorem b223 : oneB Tryz.prog nu Tryz.f49 F223 = true := by kernel_rfl
theorem b224 : oneB Tryz.prog nu Tryz.f50 F224 = true := by kernel_rfl
theorem b225 : cloneB Tryz.prog nu Tryz.f86 1 = true := by kernel_rfl
theorem b228 : oneB Tryz.prog nu Tryz.f45 F228 = true := by kernel_rfl
theorem b230 : oneB Tryz.prog nu Tryz.f47 F230 = true := by kernel_rfl
theorem b235 : oneB Tryz.prog nu Tryz.f85 F235 = true := by kernel_rfl
theorem b236 : oneB Tryz.prog nu Tryz.f84 F236 = true := by kernel_rfl
theorem b237 : oneB Tryz.prog nu Tryz.f83 F237 = true := by kernel_rfl
theorem b238 : oneB Tryz.prog nu Tryz.f113 F238 = true := by kernel_rfl
theorem b239 : oneB Tryz.prog nu Tryz.f145 F239 = true := by kernel_rfl
theorem b240 : oneB Tryz.prog nu Tryz.f187 F240 = true := by kernel_rfl
theorem b241 : oneB Tryz.prog nu Tryz.f188 F241 = true := by kernel_rfl
theorem b242 : oneB Tryz.prog nu Tryz.f172 F242 = true := by kernel_rfl
theorem b244 : oneB Tryz.prog nu Tryz.f185 F244 = true := by kernel_rfl
theorem b245 : oneB Tryz.prog nu Tryz.f184 F245 = true := by kernel_rfl
theorem b247 : oneB Tryz.prog nu Tryz.f182 F247 = true := by kernel_rfl
theorem b248 : oneB Tryz.prog nu Tryz.f181 F248 = true := by kernel_rfl
theorem b249 : oneB Tryz.prog nu Tryz.f208 F249 = true := by kernel_rfl
theorem b251 : oneB Tryz.prog nu Tryz.f202 F251 = true := by kernel_rfl
theorem b257 : oneB Tryz.prog nu Tryz.f112 F257 = true := by kernel_rfl
theorem b258 : oneB Tryz.prog nu Tryz.f111 F258 = true := by kernel_rfl
theorem b259 : oneB Tryz.prog nu Tryz.f141 F259 = true := by kernel_rfl
theorem b261 : oneB Tryz.prog nu Tryz.f144 F261 = true := by kernel_rfl
theorem b262 : oneB Tryz.prog nu Tryz.f142 F262 = true := by kernel_rfl
theorem b263 : oneB Tryz.prog nu Tryz.f177 F263 = true := by kernel_rfl
theorem b264 : oneB Tryz.prog nu Tryz.f174 F264 = true := by kernel_rfl
theorem b265 : oneB Tryz.prog nu Tryz.f178 F265 = true := by kernel_rfl
theorem b267 : oneB Tryz.prog nu Tryz.f175 F267 = true := by kernel_rfl
theorem b268 : oneB Tryz.prog nu Tryz.f173 F268 = true := by kernel_rfl
theorem b269 : oneB Tryz.prog nu Tryz.f176 F269 = true := by kernel_rfl
theorem b272 : oneB Tryz.prog nu Tryz.f204 F272 = true := by kernel_rfl
theorem b275 : oneB Tryz.prog nu Tryz.f6 F275 = true := by kernel_rfl
theorem tie1 : Arb.Tie Tryz.prog nu (Arb.get fns1) :=
  Arb.tie_cons (Arb.tie_at Tryz.func104 (by kernel_rfl) a27) <|
  Arb.tie_cons (Arb.tie_at Tryz.func58 (by kernel_rfl) a131) <|
  Arb.tie_cons (Arb.tie_at Tryz.func103 (by kernel_rfl) a132) <|
  Arb.tie_cons (Arb.tie_at Tryz.func90 (by kernel_rfl) a133) <|
  Arb.tie_cons (Arb.tie_at Tryz.func91 (by kernel_rfl) a134) <|
  Arb.tie_cons (Arb.tie_at Tryz.func115 (by kernel_rfl) a135) <|
  Arb.tie_cons (Arb.tie_at Tryz.func60 (by kernel_rfl) a137) <|
  Arb.tie_cons (Arb.tie_at Tryz.func94 (by kernel_rfl) a138) <|
  Arb.tie_cons (Arb.tie_at Tryz.func77 (by kernel_rfl) a169) <|
  Arb.tie_cons (Arb.tie_at Tryz.func78 (by kernel_rfl) a170) <|
  Arb.tie_cons (Arb.tie_at Tryz.func20 (by kernel_rfl) a201) <|
  Arb.tie_cons (Arb.tie_at Tryz.func42 (by kernel_rfl) a202) <|
  Arb.tie_cons (Arb.tie_at Tryz.func41 (by kernel_rfl) a203) <|
  Arb.tie_cons (Arb.tie_at Tryz.func79 (by kernel_rfl) a204) <|
  Arb.tie_nil
theorem tie2 : Tie Tryz.prog nu (Arx.get fns2) :=
  tie_cons (tie_clone mixed Tryz.func143 (by kernel_rfl) rfl b54) <|
  tie_cons (tie_at Tryz.func170 (by kernel_rfl) b140) <|
  tie_cons (tie_at Tryz.func108 (by kernel_rfl) b147) <|
  tie_cons (tie_at Tryz.func22 (by kernel_rfl) b210) <|
  tie_cons (tie_at Tryz.func23 (by kernel_rfl) b211) <|
  tie_cons (tie_at Tryz.func24 (by kernel_rfl) b212) <|
  tie_cons (tie_at Tryz.func25 (by kernel_rfl) b213) <|
  tie_cons (tie_at Tryz.func21 (by kernel_rfl) b214) <|
  tie_cons (tie_at Tryz.func19 (by kernel_rfl) b215) <|
  tie_cons (tie_at Tryz.func52 (by kernel_rfl) b217) <|
  tie_cons (tie_at Tryz.func87 (by kernel_rfl) b218) <|
  tie_cons (tie_total mixed Tryz.func51 (by kernel_rfl) rfl b219) <|
  tie_cons (tie_at Tryz.func40 (by kernel_rfl) b220) <|
  tie_cons (tie_at Tryz.func76 (by kernel_rfl) b221) <|
  tie_cons (tie_at Tryz.func75 (by kernel_rfl) b222) <|
  tie_cons (tie_at Tryz.func49 (by kernel_rfl) b223) <|
  tie_cons (tie_at Tryz.func50 (by kernel_rfl) b224) <|
  tie_cons (tie_clone mixed Tryz.func86 (by kernel_rfl) rfl b225) <|
  tie_cons (tie_at Tryz.func45 (by kernel_rfl) b228) <|
  tie_cons (tie_at Tryz.func47 (by kernel_rfl) b230) <|
  tie_cons (tie_at Tryz.func85 (by kernel_rfl) b235) <|
  tie_cons (tie_at Tryz.func84 (by kernel_rfl) b236) <|
  tie_cons (tie_at Tryz.func83 (by kernel_rfl) b237) <|
  tie_cons (tie_at Tryz.func113 (by kernel_rfl) b238) <|
  tie_cons (tie_at Tryz.func145 (by kernel_rfl) b239) <|
  tie_cons (tie_at Tryz.func187 (by kernel_rfl) b240) <|
  tie_cons (tie_at Tryz.func188 (by kernel_rfl) b241) <|
  tie_cons (tie_at Tryz.func172 (by kernel_rfl) b242) <|
  tie_cons (tie_at Tryz.func185 (by kernel_rfl) b244) <|
  tie_cons (tie_at Tryz.func184 (by kernel_rfl) b245) <|
  tie_cons (tie_at Tryz.func182 (by kernel_rfl) b247) <|
  tie_cons (tie_at Tryz.func181 (by kernel_rfl) b248) <|
  tie_cons (tie_at Tryz.func208 (by kernel_rfl) b249) <|
  tie_cons (tie_at Tryz.func202 (by kernel_rfl) b251) <|
  tie_cons (tie_at Tryz.func112 (by kernel_rfl) b257) <|
  tie_cons (tie_at Tryz.func111 (by kernel_rfl) b258) <|
  tie_cons (tie_at Tryz.func141 (by kernel_rfl) b259) <|
  tie_cons (tie_at Tryz.func144 (by kernel_rfl) b261) <|
  tie_cons (tie_at Tryz.func142 (by kernel_rfl) b262) <|
  tie_cons (tie_at Tryz.func177 (by kernel_rfl) b263) <|
  tie_cons (tie_at Tryz.func174 (by kernel_rfl) b264) <|
  tie_cons (tie_at Tryz.func178 (by kernel_rfl) b265) <|
  tie_cons (tie_at Tryz.func175 (by kernel_rfl) b267) <|
  tie_cons (tie_at Tryz.func173 (by kernel_rfl) b268) <|
  tie_cons (tie_at Tryz.func176 (by kernel_rfl) b269) <|
  tie_cons (tie_at Tryz.func204 (by kernel_rfl) b272) <|
  tie_cons (tie_at Tryz.func6 (by kernel_rfl) b275) <|
  tie_nil
theorem le2 : PrimsLe (Arx.get fns2) :=
  prims_cons (fun p h => by cases h; exact clone_le 1) <|
  prims_cons (fun p h => by cases h) <|
  prims_cons (fun p h => by cases h) <|
  prims_cons (fun p h => by cases h) <|
  prims_cons (fun p h => by cases h) <|
  prims_cons (fun p h => by cases h) <|
  prims_cons (fun p h => by cases h) <|
  prims_cons (fun p h => by cases h) <|
  prims_cons (fun p h => by cases h) <|
  prims_cons (fun p h => by cases h) <|
  prims_cons (fun p h => by cases h) <|
  prims_cons (fun p h => by cases h; exact total_le) <|
  prims_cons (fun p h => by cases h) <|
  prims_cons (fun p h => by cases h) <|
  prims_cons (fun p h => by cases h) <|
  prims_cons (fun p h => by cases h) <|
  prims_cons (fun p h => by cases h) <|
  prims_cons (fun p h => by cases h; exact clone_le 1) <|
  prims_cons (fun p h => by cases h) <|
  prims_cons (fun p h => by cases h) <|
  prims_cons (fun p h => by cases h) <|
  prims_cons (fun p h => by cases h) <|
  prims_cons (fun p h => by cases h) <|
  prims_cons (fun p h => by cases h) <|
  prims_cons (fun p h => by cases h) <|
  prims_cons (fun p h => by cases h) <|
  prims_cons (fun p h => by cases h) <|
  prims_cons (fun p h => by cases h) <|
  prims_cons (fun p h => by cases h) <|
  prims_cons (fun p h => by cases h) <|
  prims_cons (fun p h => by cases h) <|
  prims_cons (fun p h => by cases h) <|
  prims_cons (fun p h => by cases h) <|
  prims_cons (fun p h => by cases h) <|
  prims_cons (fun p h => by cases h) <|
  prims_cons (fun p h => by cases h) <|
  prims_cons (fun p h => by cases h) <|
  prims_cons (fun p h => by cases h) <|
  prims_cons (fun p h => by cases h) <|
  prims_cons (fun p h => by cases h) <|
  prims_cons (fun p h => by cases h) <|
  prims_cons (fun p h => by cases h) <|
  prims_cons (fun p h => by cases h) <|
  prims_cons (fun p h => by cases h) <|
  prims_cons (fun p h => by cases h) <|
  prims_cons (fun p h => by cases h) <|
  prims_cons (fun p h => by cases h) <|
  prims_nil
theorem more2 (n : Nat) : MoreX (run2 (Arb.get fns1) (Arx.get fns2) n) := evalF_more (prims_more tie2) n
end Tied
end Arx
