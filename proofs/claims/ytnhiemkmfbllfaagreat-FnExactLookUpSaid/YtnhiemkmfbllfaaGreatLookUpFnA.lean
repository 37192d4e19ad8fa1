/- What the functions compute that the law reaches, and that the law returns true. Conditions: none. -/
import Derived.Test.YtnhiemkmfbllfaaGreatLookUpTy
import Derived.Test.YtnhiemkmfbllfaaGreatProg
import Derived.Lib.AppendZerosOnto
import Derived.Lib.Bytealg
import Derived.Laws.Externs
import Derived.Lib.Walk
import Derived.Lib.Hide
import Derived.Lib.Strings
set_option linter.all false
set_option maxRecDepth 100000
noncomputable section
namespace Go.DM
open Go.Proofs
open Go.IntKind (i64)
abbrev k7 : List K := [.int .i64, .int .i64, .bool, .int .u8]
abbrev f7 : List Lf := [fI, fI, fB, .rd (.int .u8)]
abbrev k8 : List K := [.int .i64, .int .i64, .bool, .int .u8]
abbrev f8 : List Lf := [fI, fI, fB, .rd (.int .u8)]
abbrev nL : List K := [.str, .int .u64]
abbrev f13 : List Lf := [fS, .rd (.int .u64)]
abbrev nX : List K := [.str, .int .u64]
abbrev f14 : List Lf := [fS, .rd (.int .u64)]
abbrev yh : List K := [.sl 107, .sl 195]
abbrev f24 : List Lf := [.fr 107, .fr 195]
abbrev xJ : List K := [.sl 107, .sl 195]
abbrev f25 : List Lf := [.fr 107, .fr 195]
abbrev xv : List K := [.sl 116, .sl 204]
abbrev f31 : List Lf := [.fr 116, .fr 204]
abbrev rh : List K := [.sl 116, .sl 204]
abbrev f32 : List Lf := [.fr 116, .fr 204]
abbrev yi : List K := [.str, .int .i64, .int .i64, .sl 9]
abbrev f34 : List Lf := [fS, fI, fI, .fr 9]
abbrev nM : List K := [.str, .int .i64, .int .i64, .sl 9]
abbrev f35 : List Lf := [fS, fI, fI, .fr 9]
abbrev yj : List K := [.sl 116, .sl 204, .bool, .str, .int .i64, .int .i64, .sl 9, .bool, .sl 3]
abbrev f37 : List Lf := [.fr 116, .fr 204, fB, fS, fI, fI, .fr 9, fB, .fr 3]
abbrev xd : List K := [.sl 116, .sl 204, .bool, .str, .int .i64, .int .i64, .sl 9, .bool, .sl 3]
abbrev f38 : List Lf := [.fr 116, .fr 204, fB, fS, fI, fI, .fr 9, fB, .fr 3]
abbrev yl : List K := [.sl 116, .sl 204, .int .i64, .str, .int .i64, .int .i64, .sl 9, .sl 3, .int .i64]
abbrev f53 : List Lf := [.fr 116, .fr 204, fI, fS, fI, fI, .fr 9, .fr 3, fI]
abbrev yd : List K := [.sl 116, .sl 204, .int .i64, .str, .int .i64, .int .i64, .sl 9, .sl 3, .int .i64]
abbrev f54 : List Lf := [.fr 116, .fr 204, fI, fS, fI, fI, .fr 9, .fr 3, fI]
abbrev yk : List K := [.sl 241]
abbrev f86 : List Lf := [.fr 241]
abbrev yc : List K := [.sl 241]
abbrev f87 : List Lf := [.fr 241]
abbrev ym : List K := [.sl 243]
abbrev f91 : List Lf := [.fr 243]
abbrev ye : List K := [.sl 243]
abbrev f92 : List Lf := [.fr 243]
abbrev yb : List K := [.sl 116, .sl 204, .int .i64, .str, .int .i64, .int .i64, .sl 9, .sl 3, .int .i64, .sl 243]
abbrev f97 : List Lf := [.fr 116, .fr 204, fI, fS, fI, fI, .fr 9, .fr 3, fI, .fr 243]
abbrev xZ : List K := [.sl 116, .sl 204, .int .i64, .str, .int .i64, .int .i64, .sl 9, .sl 3, .int .i64, .sl 243]
abbrev f98 : List Lf := [.fr 116, .fr 204, fI, fS, fI, fI, .fr 9, .fr 3, fI, .fr 243]
abbrev vJ : List K := [.str, .int .i64, .int .i64, .sl 9]
abbrev f108 : List Lf := [fS, fI, fI, .fr 9]
abbrev xx : List K := [.int .i64, .sl 3]
abbrev f109 : List Lf := [fI, .fr 3]
abbrev vQ : List K := [.int .i64, .sl 3]
abbrev f110 : List Lf := [fI, .fr 3]
abbrev xN : List K := [.int .i64, .str, .int .i64, .int .i64, .sl 9, .str, .int .i64, .int .i64, .sl 9, .int .i64, .sl 3, .int .i64, .sl 3]
abbrev f111 : List Lf := [fI, fS, fI, fI, .fr 9, fS, fI, fI, .fr 9, fI, .fr 3, fI, .fr 3]
abbrev wq : List K := [.int .i64, .str, .int .i64, .int .i64, .sl 9, .str, .int .i64, .int .i64, .sl 9, .int .i64, .sl 3, .int .i64, .sl 3]
abbrev f112 : List Lf := [fI, fS, fI, fI, .fr 9, fS, fI, fI, .fr 9, fI, .fr 3, fI, .fr 3]
abbrev xq : List K := [.sl 193, .bool, .str, .int .i64, .int .i64, .sl 9, .int .i64, .sl 3, .int .i64, .str, .int .i64, .int .i64, .sl 9, .str, .int .i64, .int .i64, .sl 9, .int .i64, .sl 3, .int .i64, .sl 3]
abbrev f113 : List Lf := [.fr 193, fB, fS, fI, fI, .fr 9, fI, .fr 3, fI, fS, fI, fI, .fr 9, fS, fI, fI, .fr 9, fI, .fr 3, fI, .fr 3]
abbrev vL : List K := [.sl 193, .bool, .str, .int .i64, .int .i64, .sl 9, .int .i64, .sl 3, .int .i64, .str, .int .i64, .int .i64, .sl 9, .str, .int .i64, .int .i64, .sl 9, .int .i64, .sl 3, .int .i64, .sl 3]
abbrev f114 : List Lf := [.fr 193, fB, fS, fI, fI, .fr 9, fI, .fr 3, fI, fS, fI, fI, .fr 9, fS, fI, fI, .fr 9, fI, .fr 3, fI, .fr 3]
abbrev mn : List K := [.int .i64, .sl 3]
abbrev f117 : List Lf := [fI, .fr 3]
abbrev xP : List K := [.int .i64, .str, .int .i64, .int .i64, .sl 9, .str, .int .i64, .int .i64, .sl 9, .int .i64, .sl 3, .int .i64, .sl 3]
abbrev f118 : List Lf := [fI, fS, fI, fI, .fr 9, fS, fI, fI, .fr 9, fI, .fr 3, fI, .fr 3]
abbrev pw : List K := [.int .i64, .str, .int .i64, .int .i64, .sl 9, .str, .int .i64, .int .i64, .sl 9, .int .i64, .sl 3, .int .i64, .sl 3]
abbrev f119 : List Lf := [fI, fS, fI, fI, .fr 9, fS, fI, fI, .fr 9, fI, .fr 3, fI, .fr 3]
abbrev xQ : List K := [.sl 202, .bool, .str, .int .i64, .int .i64, .sl 9, .int .i64, .sl 3, .int .i64, .str, .int .i64, .int .i64, .sl 9, .str, .int .i64, .int .i64, .sl 9, .int .i64, .sl 3, .int .i64, .sl 3]
abbrev f120 : List Lf := [.fr 202, fB, fS, fI, fI, .fr 9, fI, .fr 3, fI, fS, fI, fI, .fr 9, fS, fI, fI, .fr 9, fI, .fr 3, fI, .fr 3]
abbrev rj : List K := [.sl 202, .bool, .str, .int .i64, .int .i64, .sl 9, .int .i64, .sl 3, .int .i64, .str, .int .i64, .int .i64, .sl 9, .str, .int .i64, .int .i64, .sl 9, .int .i64, .sl 3, .int .i64, .sl 3]
abbrev f121 : List Lf := [.fr 202, fB, fS, fI, fI, .fr 9, fI, .fr 3, fI, fS, fI, fI, .fr 9, fS, fI, fI, .fr 9, fI, .fr 3, fI, .fr 3]
abbrev xy : List K := [.sl 3, .int .i64]
abbrev f122 : List Lf := [.fr 3, fI]
abbrev gz : List K := [.sl 3, .int .i64]
abbrev f123 : List Lf := [.fr 3, fI]
abbrev xA : List K := [.int .i64, .int .i64, .int .i64, .int .i64, .int .i64, .int .i64, .int .i64, .int .i64, .sl 3, .int .i64, .sl 3, .int .i64, .int .i64, .sl 3, .int .i64, .bool]
abbrev f124 : List Lf := [fI, fI, fI, fI, fI, fI, fI, fI, .fr 3, fI, .fr 3, fI, fI, .fr 3, fI, fB]
abbrev eA : List K := [.int .i64, .int .i64, .int .i64, .int .i64, .int .i64, .int .i64, .int .i64, .int .i64, .sl 3, .int .i64, .sl 3, .int .i64, .int .i64, .sl 3, .int .i64, .bool]
abbrev f125 : List Lf := [fI, fI, fI, fI, fI, fI, fI, fI, .fr 3, fI, .fr 3, fI, fI, .fr 3, fI, fB]
abbrev xR : List K := [.sl 268, .int .i64]
abbrev f151 : List Lf := [.fr 268, fI]
abbrev xn : List K := [.sl 268, .int .i64]
abbrev f152 : List Lf := [.fr 268, fI]
abbrev xV : List K := [.sl 236, .int .i64]
abbrev f159 : List Lf := [.fr 236, fI]
abbrev xL : List K := [.sl 236, .int .i64]
abbrev f160 : List Lf := [.fr 236, fI]
abbrev xi : List K := [.str, .int .i64]
abbrev f167 : List Lf := [fS, fI]
abbrev xo : List K := [.str, .int .i64]
abbrev f168 : List Lf := [fS, fI]
abbrev xB : List K := [.str, .int .i64]
abbrev f171 : List Lf := [fS, fI]
abbrev xI : List K := [.str, .int .i64]
abbrev f175 : List Lf := [fS, fI]
abbrev xk : List K := [.str, .int .i64]
abbrev f176 : List Lf := [fS, fI]
abbrev wo : List K := [.sl 3, .int .i64]
abbrev f188 : List Lf := [.fr 3, fI]
abbrev xw : List K := [.int .i64, .int .i64, .int .i64, .int .i64, .int .i64, .int .i64, .int .i64, .int .i64, .sl 3, .int .i64, .sl 3, .int .i64, .int .i64, .sl 3, .int .i64, .bool]
abbrev f189 : List Lf := [fI, fI, fI, fI, fI, fI, fI, fI, .fr 3, fI, .fr 3, fI, fI, .fr 3, fI, fB]
abbrev vH : List K := [.int .i64, .int .i64, .int .i64, .int .i64, .int .i64, .int .i64, .int .i64, .int .i64, .sl 3, .int .i64, .sl 3, .int .i64, .int .i64, .sl 3, .int .i64, .bool]
abbrev f190 : List Lf := [fI, fI, fI, fI, fI, fI, fI, fI, .fr 3, fI, .fr 3, fI, fI, .fr 3, fI, fB]
abbrev xf : List K := [.int .i64, .int .i64, .int .i64, .int .i64, .int .i64, .int .i64, .int .i64, .int .i64, .sl 3, .int .i64, .sl 3, .int .i64, .int .i64, .sl 3, .int .i64, .bool, .sl 323]
abbrev f192 : List Lf := [fI, fI, fI, fI, fI, fI, fI, fI, .fr 3, fI, .fr 3, fI, fI, .fr 3, fI, fB, .fr 323]
abbrev vW : List K := [.int .i64, .int .i64, .int .i64, .int .i64, .int .i64, .int .i64, .int .i64, .int .i64, .sl 3, .int .i64, .sl 3, .int .i64, .int .i64, .sl 3, .int .i64, .bool, .sl 323]
abbrev f193 : List Lf := [fI, fI, fI, fI, fI, fI, fI, fI, .fr 3, fI, .fr 3, fI, fI, .fr 3, fI, fB, .fr 323]
abbrev xu : List K := [.int .i64, .int .i64, .int .i64, .int .i64, .int .i64, .int .i64, .int .i64, .int .i64, .sl 3, .int .i64, .sl 3, .int .i64, .int .i64, .sl 3, .int .i64, .bool, .sl 323, .int .i64, .int .i64, .int .i64, .int .i64, .int .i64, .int .i64, .int .i64, .int .i64, .sl 3, .int .i64, .sl 3, .int .i64, .int .i64, .sl 3, .int .i64, .bool, .sl 323, .int .i64, .int .i64, .int .i64, .int .i64, .int .i64, .int .i64, .int .i64, .int .i64, .sl 3, .int .i64, .sl 3, .int .i64, .int .i64, .sl 3, .int .i64, .bool, .sl 323]
abbrev f194 : List Lf := [fI, fI, fI, fI, fI, fI, fI, fI, .fr 3, fI, .fr 3, fI, fI, .fr 3, fI, fB, .fr 323, fI, fI, fI, fI, fI, fI, fI, fI, .fr 3, fI, .fr 3, fI, fI, .fr 3, fI, fB, .fr 323, fI, fI, fI, fI, fI, fI, fI, fI, .fr 3, fI, .fr 3, fI, fI, .fr 3, fI, fB, .fr 323]
abbrev wx : List K := [.int .i64, .int .i64, .int .i64, .int .i64, .int .i64, .int .i64, .int .i64, .int .i64, .sl 3, .int .i64, .sl 3, .int .i64, .int .i64, .sl 3, .int .i64, .bool, .sl 323, .int .i64, .int .i64, .int .i64, .int .i64, .int .i64, .int .i64, .int .i64, .int .i64, .sl 3, .int .i64, .sl 3, .int .i64, .int .i64, .sl 3, .int .i64, .bool, .sl 323, .int .i64, .int .i64, .int .i64, .int .i64, .int .i64, .int .i64, .int .i64, .int .i64, .sl 3, .int .i64, .sl 3, .int .i64, .int .i64, .sl 3, .int .i64, .bool, .sl 323]
abbrev f195 : List Lf := [fI, fI, fI, fI, fI, fI, fI, fI, .fr 3, fI, .fr 3, fI, fI, .fr 3, fI, fB, .fr 323, fI, fI, fI, fI, fI, fI, fI, fI, .fr 3, fI, .fr 3, fI, fI, .fr 3, fI, fB, .fr 323, fI, fI, fI, fI, fI, fI, fI, fI, .fr 3, fI, .fr 3, fI, fI, .fr 3, fI, fB, .fr 323]
abbrev xE : List K := [.int .i64, .int .i64, .int .i64, .int .i64, .int .i64, .int .i64, .int .i64, .int .i64, .sl 3, .int .i64, .sl 3, .int .i64, .int .i64, .sl 3, .int .i64, .bool, .sl 264]
abbrev f201 : List Lf := [fI, fI, fI, fI, fI, fI, fI, fI, .fr 3, fI, .fr 3, fI, fI, .fr 3, fI, fB, .fr 264]
abbrev iR : List K := [.int .i64, .int .i64, .int .i64, .int .i64, .int .i64, .int .i64, .int .i64, .int .i64, .sl 3, .int .i64, .sl 3, .int .i64, .int .i64, .sl 3, .int .i64, .bool, .sl 264]
abbrev f202 : List Lf := [fI, fI, fI, fI, fI, fI, fI, fI, .fr 3, fI, .fr 3, fI, fI, .fr 3, fI, fB, .fr 264]
abbrev xH : List K := [.int .i64, .int .i64, .int .i64, .int .i64, .int .i64, .int .i64, .int .i64, .int .i64, .sl 3, .int .i64, .sl 3, .int .i64, .int .i64, .sl 3, .int .i64, .bool, .sl 264, .int .i64, .int .i64, .int .i64, .int .i64, .int .i64, .int .i64, .int .i64, .int .i64, .sl 3, .int .i64, .sl 3, .int .i64, .int .i64, .sl 3, .int .i64, .bool, .sl 264, .int .i64, .int .i64, .int .i64, .int .i64, .int .i64, .int .i64, .int .i64, .int .i64, .sl 3, .int .i64, .sl 3, .int .i64, .int .i64, .sl 3, .int .i64, .bool, .sl 264]
abbrev f203 : List Lf := [fI, fI, fI, fI, fI, fI, fI, fI, .fr 3, fI, .fr 3, fI, fI, .fr 3, fI, fB, .fr 264, fI, fI, fI, fI, fI, fI, fI, fI, .fr 3, fI, .fr 3, fI, fI, .fr 3, fI, fB, .fr 264, fI, fI, fI, fI, fI, fI, fI, fI, .fr 3, fI, .fr 3, fI, fI, .fr 3, fI, fB, .fr 264]
abbrev pN : List K := [.int .i64, .int .i64, .int .i64, .int .i64, .int .i64, .int .i64, .int .i64, .int .i64, .sl 3, .int .i64, .sl 3, .int .i64, .int .i64, .sl 3, .int .i64, .bool, .sl 264, .int .i64, .int .i64, .int .i64, .int .i64, .int .i64, .int .i64, .int .i64, .int .i64, .sl 3, .int .i64, .sl 3, .int .i64, .int .i64, .sl 3, .int .i64, .bool, .sl 264, .int .i64, .int .i64, .int .i64, .int .i64, .int .i64, .int .i64, .int .i64, .int .i64, .sl 3, .int .i64, .sl 3, .int .i64, .int .i64, .sl 3, .int .i64, .bool, .sl 264]
abbrev f204 : List Lf := [fI, fI, fI, fI, fI, fI, fI, fI, .fr 3, fI, .fr 3, fI, fI, .fr 3, fI, fB, .fr 264, fI, fI, fI, fI, fI, fI, fI, fI, .fr 3, fI, .fr 3, fI, fI, .fr 3, fI, fB, .fr 264, fI, fI, fI, fI, fI, fI, fI, fI, .fr 3, fI, .fr 3, fI, fI, .fr 3, fI, fB, .fr 264]
abbrev xp : List K := [.sl 202, .sl 35]
abbrev f235 : List Lf := [.fr 202, .fr 35]
abbrev xg : List K := [.sl 202, .sl 35]
abbrev f236 : List Lf := [.fr 202, .fr 35]
abbrev xm : List K := [.int .i64, .str, .sl 193, .bool, .str, .int .i64, .int .i64, .sl 9, .int .i64, .sl 3, .int .i64, .str, .int .i64, .int .i64, .sl 9, .str, .int .i64, .int .i64, .sl 9, .int .i64, .sl 3, .int .i64, .sl 3]
abbrev f240 : List Lf := [fI, fS, .fr 193, fB, fS, fI, fI, .fr 9, fI, .fr 3, fI, fS, fI, fI, .fr 9, fS, fI, fI, .fr 9, fI, .fr 3, fI, .fr 3]
abbrev xC : List K := [.int .i64, .str, .sl 193, .bool, .str, .int .i64, .int .i64, .sl 9, .int .i64, .sl 3, .int .i64, .str, .int .i64, .int .i64, .sl 9, .str, .int .i64, .int .i64, .sl 9, .int .i64, .sl 3, .int .i64, .sl 3]
abbrev f241 : List Lf := [fI, fS, .fr 193, fB, fS, fI, fI, .fr 9, fI, .fr 3, fI, fS, fI, fI, .fr 9, fS, fI, fI, .fr 9, fI, .fr 3, fI, .fr 3]
abbrev xS : List K := [.int .i64, .str, .sl 202, .bool, .str, .int .i64, .int .i64, .sl 9, .int .i64, .sl 3, .int .i64, .str, .int .i64, .int .i64, .sl 9, .str, .int .i64, .int .i64, .sl 9, .int .i64, .sl 3, .int .i64, .sl 3]
abbrev f242 : List Lf := [fI, fS, .fr 202, fB, fS, fI, fI, .fr 9, fI, .fr 3, fI, fS, fI, fI, .fr 9, fS, fI, fI, .fr 9, fI, .fr 3, fI, .fr 3]
abbrev xU : List K := [.int .i64, .str, .sl 202, .bool, .str, .int .i64, .int .i64, .sl 9, .int .i64, .sl 3, .int .i64, .str, .int .i64, .int .i64, .sl 9, .str, .int .i64, .int .i64, .sl 9, .int .i64, .sl 3, .int .i64, .sl 3]
abbrev f243 : List Lf := [fI, fS, .fr 202, fB, fS, fI, fI, .fr 9, fI, .fr 3, fI, fS, fI, fI, .fr 9, fS, fI, fI, .fr 9, fI, .fr 3, fI, .fr 3]
abbrev xh : List K := [.int .i64, .int .i64]
abbrev f263 : List Lf := [fI, fI]
abbrev tT : List K := [.int .i64, .int .i64]
abbrev f264 : List Lf := [fI, fI]
abbrev xK : List K := [.sl 193, .sl 108]
abbrev f267 : List Lf := [.fr 193, .fr 108]
abbrev xl : List K := [.sl 193, .sl 108]
abbrev f268 : List Lf := [.fr 193, .fr 108]
abbrev wO : List K := [.int .i64, .int .i64]
abbrev f323 : List Lf := [fI, fI]
def lr : List (Nat × TI) := [
 (2, ⟨[.int .i64], false, [], 8, false⟩),
 (3, ⟨[.int .i64], false, [], 8, false⟩),
 (4, ⟨[.bool], false, [], 1, false⟩),
 (5, ⟨[.int .u8], false, [], 1, false⟩),
 (6, ⟨[.int .u8], false, [], 1, false⟩),
 (7, ⟨k7, true, [(0, 2), (1, 3), (2, 4), (3, 6)], 24, false⟩),
 (8, ⟨k8, true, [(0, 2), (1, 3), (2, 4), (3, 6)], 24, false⟩),
 (9, ⟨[.str], false, [], 16, false⟩),
 (10, ⟨[.str], false, [], 16, false⟩),
 (11, ⟨[.str], false, [], 16, false⟩),
 (12, ⟨[.int .u64], false, [], 8, false⟩),
 (13, ⟨nL, true, [(0, 9), (1, 12)], 24, false⟩),
 (14, ⟨nX, true, [(0, 9), (1, 12)], 24, false⟩),
 (21, ⟨[.int .i32], false, [], 4, false⟩),
 (22, ⟨[.sl 107], false, [], 24, false⟩),
 (23, ⟨[.sl 195], false, [], 24, false⟩),
 (24, ⟨yh, true, [(0, 22), (1, 23)], 48, false⟩),
 (25, ⟨xJ, true, [(0, 22), (1, 23)], 48, false⟩),
 (26, ⟨[.sl 114], false, [], 24, false⟩),
 (29, ⟨[.sl 116], false, [], 24, false⟩),
 (30, ⟨[.sl 204], false, [], 24, false⟩),
 (31, ⟨xv, true, [(0, 29), (1, 30)], 48, false⟩),
 (32, ⟨rh, true, [(0, 29), (1, 30)], 48, false⟩),
 (33, ⟨[.sl 9], false, [], 24, false⟩),
 (34, ⟨yi, true, [(0, 9), (1, 3), (2, 3), (3, 33)], 56, false⟩),
 (35, ⟨nM, true, [(0, 9), (1, 3), (2, 3), (3, 33)], 56, false⟩),
 (36, ⟨[.sl 3], false, [], 24, false⟩),
 (37, ⟨yj, true, [(0, 32), (2, 4), (3, 35), (7, 4), (8, 36)], 144, false⟩),
 (38, ⟨xd, true, [(0, 32), (2, 4), (3, 35), (7, 4), (8, 36)], 144, false⟩),
 (41, ⟨[.sl 121], false, [], 24, false⟩),
 (50, ⟨[.sl 152], false, [], 24, false⟩),
 (53, ⟨yl, true, [(0, 32), (2, 3), (3, 35), (7, 36), (8, 3)], 144, false⟩),
 (54, ⟨yd, true, [(0, 32), (2, 3), (3, 35), (7, 36), (8, 3)], 144, false⟩),
 (56, ⟨[.sl 160], false, [], 24, false⟩),
 (65, ⟨[.sl 168], false, [], 24, false⟩),
 (68, ⟨[.sl 171], false, [], 24, false⟩),
 (73, ⟨[.sl 175], false, [], 24, false⟩),
 (75, ⟨[.sl 54], false, [], 24, false⟩),
 (78, ⟨[.sl 176], false, [], 24, false⟩),
 (85, ⟨[.sl 241], false, [], 24, false⟩),
 (86, ⟨yk, true, [(0, 85)], 24, false⟩),
 (87, ⟨yc, true, [(0, 85)], 24, false⟩),
 (90, ⟨[.sl 243], false, [], 24, false⟩),
 (91, ⟨ym, true, [(0, 90)], 24, false⟩),
 (92, ⟨ye, true, [(0, 90)], 24, false⟩),
 (97, ⟨yb, true, [(0, 54), (9, 92)], 168, false⟩),
 (98, ⟨xZ, true, [(0, 54), (9, 92)], 168, false⟩),
 (107, ⟨[.sl 193], false, [], 24, false⟩),
 (108, ⟨vJ, true, [(0, 9), (1, 3), (2, 3), (3, 33)], 56, false⟩),
 (109, ⟨xx, true, [(0, 3), (1, 36)], 32, false⟩),
 (110, ⟨vQ, true, [(0, 3), (1, 36)], 32, false⟩),
 (111, ⟨xN, true, [(0, 3), (1, 108), (5, 108), (9, 110), (11, 110)], 184, false⟩),
 (112, ⟨wq, true, [(0, 3), (1, 108), (5, 108), (9, 110), (11, 110)], 184, false⟩),
 (113, ⟨xq, true, [(0, 107), (1, 4), (2, 108), (6, 110), (8, 112)], 304, false⟩),
 (114, ⟨vL, true, [(0, 107), (1, 4), (2, 108), (6, 110), (8, 112)], 304, false⟩),
 (116, ⟨[.sl 202], false, [], 24, false⟩),
 (117, ⟨mn, true, [(0, 3), (1, 36)], 32, false⟩),
 (118, ⟨xP, true, [(0, 3), (1, 35), (5, 35), (9, 117), (11, 117)], 184, false⟩),
 (119, ⟨pw, true, [(0, 3), (1, 35), (5, 35), (9, 117), (11, 117)], 184, false⟩),
 (120, ⟨xQ, true, [(0, 116), (1, 4), (2, 35), (6, 117), (8, 119)], 304, false⟩),
 (121, ⟨rj, true, [(0, 116), (1, 4), (2, 35), (6, 117), (8, 119)], 304, false⟩),
 (122, ⟨xy, true, [(0, 36), (1, 3)], 32, false⟩),
 (123, ⟨gz, true, [(0, 36), (1, 3)], 32, false⟩),
 (124, ⟨xA, true, [(0, 3), (1, 3), (2, 3), (3, 3), (4, 3), (5, 3), (6, 3), (7, 3), (8, 123), (10, 123), (12, 3), (13, 123), (15, 4)], 176, false⟩),
 (125, ⟨eA, true, [(0, 3), (1, 3), (2, 3), (3, 3), (4, 3), (5, 3), (6, 3), (7, 3), (8, 123), (10, 123), (12, 3), (13, 123), (15, 4)], 176, false⟩),
 (150, ⟨[.sl 268], false, [], 24, false⟩),
 (151, ⟨xR, true, [(0, 150), (1, 3)], 32, false⟩),
 (152, ⟨xn, true, [(0, 150), (1, 3)], 32, false⟩),
 (158, ⟨[.sl 236], false, [], 24, false⟩),
 (159, ⟨xV, true, [(0, 158), (1, 3)], 32, false⟩),
 (160, ⟨xL, true, [(0, 158), (1, 3)], 32, false⟩),
 (167, ⟨xi, true, [(0, 9), (1, 3)], 24, false⟩),
 (168, ⟨xo, true, [(0, 9), (1, 3)], 24, true⟩),
 (171, ⟨xB, true, [(0, 9), (1, 3)], 24, true⟩),
 (175, ⟨xI, true, [(0, 9), (1, 3)], 24, true⟩),
 (176, ⟨xk, true, [(0, 9), (1, 3)], 24, true⟩),
 (188, ⟨wo, true, [(0, 36), (1, 3)], 32, false⟩),
 (189, ⟨xw, true, [(0, 3), (1, 3), (2, 3), (3, 3), (4, 3), (5, 3), (6, 3), (7, 3), (8, 188), (10, 188), (12, 3), (13, 188), (15, 4)], 176, false⟩),
 (190, ⟨vH, true, [(0, 3), (1, 3), (2, 3), (3, 3), (4, 3), (5, 3), (6, 3), (7, 3), (8, 188), (10, 188), (12, 3), (13, 188), (15, 4)], 176, false⟩),
 (191, ⟨[.sl 323], false, [], 24, false⟩),
 (192, ⟨xf, true, [(0, 190), (16, 191)], 200, false⟩),
 (193, ⟨vW, true, [(0, 190), (16, 191)], 200, false⟩),
 (194, ⟨xu, true, [(0, 193), (17, 193), (34, 193)], 600, false⟩),
 (195, ⟨wx, true, [(0, 193), (17, 193), (34, 193)], 600, false⟩),
 (200, ⟨[.sl 264], false, [], 24, false⟩),
 (201, ⟨xE, true, [(0, 125), (16, 200)], 200, false⟩),
 (202, ⟨iR, true, [(0, 125), (16, 200)], 200, false⟩),
 (203, ⟨xH, true, [(0, 202), (17, 202), (34, 202)], 600, false⟩),
 (204, ⟨pN, true, [(0, 202), (17, 202), (34, 202)], 600, false⟩),
 (225, ⟨[.sl 5], false, [], 24, false⟩),
 (234, ⟨[.sl 35], false, [], 24, false⟩),
 (235, ⟨xp, true, [(0, 116), (1, 234)], 48, false⟩),
 (236, ⟨xg, true, [(0, 116), (1, 234)], 48, false⟩),
 (240, ⟨xm, true, [(0, 3), (1, 9), (2, 114)], 328, false⟩),
 (241, ⟨xC, true, [(0, 3), (1, 9), (2, 114)], 328, false⟩),
 (242, ⟨xS, true, [(0, 3), (1, 9), (2, 121)], 328, false⟩),
 (243, ⟨xU, true, [(0, 3), (1, 9), (2, 121)], 328, false⟩),
 (263, ⟨xh, true, [(0, 3), (1, 3)], 16, false⟩),
 (264, ⟨tT, true, [(0, 3), (1, 3)], 16, true⟩),
 (266, ⟨[.sl 108], false, [], 24, false⟩),
 (267, ⟨xK, true, [(0, 107), (1, 266)], 48, false⟩),
 (268, ⟨xl, true, [(0, 107), (1, 266)], 48, false⟩),
 (323, ⟨wO, true, [(0, 3), (1, 3)], 16, true⟩),
 (347, ⟨[.sl 36], false, [], 24, false⟩),
 (358, ⟨[.int .u32], false, [], 4, false⟩),
 (359, ⟨[.int .u8], false, [], 1, false⟩),
 (360, ⟨[.int .u8], false, [], 1, false⟩),
 (363, ⟨[.int .i32], false, [], 4, false⟩),
 (364, ⟨[.int .i32], false, [], 4, false⟩)]
abbrev Ev : Env := cR lr
theorem au : dE Tryz.prog lr = true := by kernel_rfl
theorem mix : Tryz.prog.follows .mixedOrders = true := by kernel_rfl
namespace Z0
def F (x0 : List (List L)) (x1 : Int) : ay := (cond (decide ((i64.wrap (x1 - (x0.length : Int))) < 0)) (ret ((-1) : Int)) (ret ((i64.wrap (x1 - (x0.length : Int))) : Int)))
def md (a0 : List Int) (a1 : Int) : Int := fT (di (fun y : Int => 0) a0) a1
def gd (a0 : List Int) (a1 : Int) : Prop := (bw maxLen (fun y : Int => True) a0) ∧ 0 ≤ a1 ∧ a1 ≤ 1048576
def R := RR (p2 gd) (u2 md)
theorem ai {a0 a1} (h : gd a0 a1) : R ((a0.map aP), a1) = some (md a0 a1) := aE (a := (a0, a1)) h
def aK := CN [pL 3, pI] oI RT.dec R
theorem okF (a0) (a1) (hg : gd a0 a1) : F (a0.map aP) a1 = ret (md a0 a1) := by
  obtain ⟨hs, g0, g1⟩ := hg
  unfold F md
  rw [List.length_map, kG g0 g1 hs.1]
  have e : di (fun y : Int => 0) a0 = a0.length := by
    unfold di
    have : (a0.map (fun y : Int => 0)).sum = 0 := nd (fun _ => rfl) a0
    omega
  rw [e]
  by_cases hc : a1 < ((a0.length : Nat) : Int)
  · rw [bK hc, decide_eq_true (by omega)]; rfl
  · rw [cm hc, decide_eq_false (by omega)]; rfl
theorem ab : Valid Tryz.prog Ev 181 aK := W2 12 F mix au okF .nil Tryz.func181
end Z0
namespace Z1
def F (x0 : aO) (x1 : Int) : ay := (call (Z0.R (x0.aF, x1)) fun v1 => (cond (decide (v1 < 0)) (ret ((-1) : Int)) (ret (v1 : Int))))
def md (a0 : aw) (a1 : Int) : Int := fT (aw.size a0) a1
def gd (a0 : aw) (a1 : Int) : Prop := (aw.Sm maxLen a0) ∧ 0 ≤ a1 ∧ a1 ≤ 1048576
def R := RR (p2 gd) (u2 md)
theorem ai {a0 a1} (h : gd a0 a1) : R ((aw.r a0), a1) = some (md a0 a1) := aE (a := (a0, a1)) h
def aK := CN [.agg wo, pI] oI RT.dec R
theorem okF (a0) (a1) (hg : gd a0 a1) : F (aw.r a0) a1 = ret (md a0 a1) := by
  obtain ⟨hs, g0, g1⟩ := hg
  unfold md
  show (call (Z0.R ((a0.aF.map aP), a1)) fun v1 => (cond (decide (v1 < 0)) (ret ((-1) : Int)) (ret (v1 : Int)))) = _
  rw [ba (Z0.ai (a1 := a1) ⟨hs, by omega, by omega⟩)]
  unfold Z0.md
  by_cases c0 : a1 < ((di (fun y : Int => 0) a0.aF : Nat) : Int)
  · rw [bK c0]; rw [show fT (aw.size a0) a1 = -1 from bK (by unfold aw.size; omega)]; try rfl
  rw [cm c0, ck (by omega), cond_false]
  rw [show fT (aw.size a0) a1 = a1 - ((di (fun y : Int => 0) a0.aF : Nat) : Int) from by rw [cm (by unfold aw.size; omega)]; unfold aw.size; omega]
theorem ab : Valid Tryz.prog Ev 273 aK := W2 12 F mix au okF (.cons Z0.ab .nil) Tryz.func273
end Z1
namespace Z2
def F (x0 : bq) (x1 : Int) : ay := (call (Z1.R (x0.bh, x1)) fun v1 => (cond (decide (v1 < 0)) (ret ((-1) : Int)) (call (Z1.R (x0.aQ, v1)) fun v2 => (cond (decide (v2 < 0)) (ret ((-1) : Int)) (call (Z1.R (x0.aM, v2)) fun v3 => (cond (decide (v3 < 0)) (ret ((-1) : Int)) (ret (v3 : Int))))))))
def md (a0 : aq) (a1 : Int) : Int := fT (aq.size a0) a1
def gd (a0 : aq) (a1 : Int) : Prop := (aq.Sm maxLen a0) ∧ 0 ≤ a1 ∧ a1 ≤ 1048576
def R := RR (p2 gd) (u2 md)
theorem ai {a0 a1} (h : gd a0 a1) : R ((aq.r a0), a1) = some (md a0 a1) := aE (a := (a0, a1)) h
def aK := CN [.agg vH, pI] oI RT.dec R
theorem okF (a0) (a1) (hg : gd a0 a1) : F (aq.r a0) a1 = ret (md a0 a1) := by
  obtain ⟨hs, g0, g1⟩ := hg
  unfold md
  show (call (Z1.R ((aw.r a0.bh), a1)) fun v1 => (bif (decide (v1 < 0)) then ret ((-1) : Int) else (call (Z1.R ((aw.r a0.aQ), v1)) fun v2 => (bif (decide (v2 < 0)) then ret ((-1) : Int) else (call (Z1.R ((aw.r a0.aM), v2)) fun v3 => (cond (decide (v3 < 0)) (ret ((-1) : Int)) (ret (v3 : Int)))))))) = _
  rw [ba (Z1.ai (a1 := a1) ⟨hs.1, by omega, by omega⟩)]
  unfold Z1.md
  by_cases c0 : a1 < ((aw.size a0.bh : Nat) : Int)
  · rw [bK c0]; rw [show fT (aq.size a0) a1 = -1 from bK (by unfold aq.size; omega)]; try rfl
  rw [cm c0, ck (by omega), cond_false]
  rw [ba (Z1.ai (a1 := (a1 - ((aw.size a0.bh : Nat) : Int))) ⟨hs.2.1, by omega, by omega⟩)]
  unfold Z1.md
  by_cases c1 : (a1 - ((aw.size a0.bh : Nat) : Int)) < ((aw.size a0.aQ : Nat) : Int)
  · rw [bK c1]; rw [show fT (aq.size a0) a1 = -1 from bK (by unfold aq.size; omega)]; try rfl
  rw [cm c1, ck (by omega), cond_false]
  rw [ba (Z1.ai (a1 := (a1 - ((aw.size a0.bh : Nat) : Int) - ((aw.size a0.aQ : Nat) : Int))) ⟨hs.2.2, by omega, by omega⟩)]
  unfold Z1.md
  by_cases c2 : (a1 - ((aw.size a0.bh : Nat) : Int) - ((aw.size a0.aQ : Nat) : Int)) < ((aw.size a0.aM : Nat) : Int)
  · rw [bK c2]; rw [show fT (aq.size a0) a1 = -1 from bK (by unfold aq.size; omega)]; try rfl
  rw [cm c2, ck (by omega), cond_false]
  rw [show fT (aq.size a0) a1 = a1 - ((aw.size a0.bh : Nat) : Int) - ((aw.size a0.aQ : Nat) : Int) - ((aw.size a0.aM : Nat) : Int) from by rw [cm (by unfold aq.size; omega)]; unfold aq.size; omega]
theorem ab : Valid Tryz.prog Ev 222 aK := W2 24 F mix au okF (.cons Z1.ab .nil) Tryz.func222
end Z2
namespace Z3
def F (x0 : List (List L)) (x1 : Int) : ay := (cond (decide ((i64.wrap (x1 - (x0.length : Int))) < 0)) (ret ((-1) : Int)) (ret ((i64.wrap (x1 - (x0.length : Int))) : Int)))
def md (a0 : List aJ) (a1 : Int) : Int := fT (di (fun y : aJ => aJ.size y) a0) a1
def gd (a0 : List aJ) (a1 : Int) : Prop := (bw maxLen (fun y : aJ => aJ.Sm maxLen y) a0) ∧ 0 ≤ a1 ∧ a1 ≤ 1048576
def R := RR (p2 gd) (u2 md)
theorem ai {a0 a1} (h : gd a0 a1) : R ((a0.map aJ.row), a1) = some (md a0 a1) := aE (a := (a0, a1)) h
def aK := CN [pL 323, pI] oI RT.dec R
theorem okF (a0) (a1) (hg : gd a0 a1) : F (a0.map aJ.row) a1 = ret (md a0 a1) := by
  obtain ⟨hs, g0, g1⟩ := hg
  unfold F md
  rw [List.length_map, kG g0 g1 hs.1]
  have e : di (fun y : aJ => aJ.size y) a0 = a0.length := by
    unfold di
    have : (a0.map (fun y : aJ => aJ.size y)).sum = 0 := nd (fun _ => rfl) a0
    omega
  rw [e]
  by_cases hc : a1 < ((a0.length : Nat) : Int)
  · rw [bK hc, decide_eq_true (by omega)]; rfl
  · rw [cm hc, decide_eq_false (by omega)]; rfl
theorem ab : Valid Tryz.prog Ev 223 aK := W2 12 F mix au okF .nil Tryz.func223
end Z3
namespace Z4
def F (x0 : aC) (x1 : Int) : ay := (call (Z2.R (x0.ae, x1)) fun v1 => (cond (decide (v1 < 0)) (ret ((-1) : Int)) (call (Z3.R (x0.bC, v1)) fun v2 => (cond (decide (v2 < 0)) (ret ((-1) : Int)) (ret (v2 : Int))))))
def md (a0 : aa) (a1 : Int) : Int := fT (aa.size a0) a1
def gd (a0 : aa) (a1 : Int) : Prop := (aa.Sm maxLen a0) ∧ 0 ≤ a1 ∧ a1 ≤ 1048576
def R := RR (p2 gd) (u2 md)
theorem ai {a0 a1} (h : gd a0 a1) : R ((aa.r a0), a1) = some (md a0 a1) := aE (a := (a0, a1)) h
def aK := CN [.agg vW, pI] oI RT.dec R
theorem okF (a0) (a1) (hg : gd a0 a1) : F (aa.r a0) a1 = ret (md a0 a1) := by
  obtain ⟨hs, g0, g1⟩ := hg
  unfold md
  show (call (Z2.R ((aq.r a0.ae), a1)) fun v1 => (bif (decide (v1 < 0)) then ret ((-1) : Int) else (call (Z3.R ((a0.bC.map aJ.row), v1)) fun v2 => (cond (decide (v2 < 0)) (ret ((-1) : Int)) (ret (v2 : Int)))))) = _
  rw [ba (Z2.ai (a1 := a1) ⟨hs.1, by omega, by omega⟩)]
  unfold Z2.md
  by_cases c0 : a1 < ((aq.size a0.ae : Nat) : Int)
  · rw [bK c0]; rw [show fT (aa.size a0) a1 = -1 from bK (by unfold aa.size; omega)]; try rfl
  rw [cm c0, ck (by omega), cond_false]
  rw [ba (Z3.ai (a1 := (a1 - ((aq.size a0.ae : Nat) : Int))) ⟨hs.2, by omega, by omega⟩)]
  unfold Z3.md
  by_cases c1 : (a1 - ((aq.size a0.ae : Nat) : Int)) < ((di (fun y : aJ => aJ.size y) a0.bC : Nat) : Int)
  · rw [bK c1]; rw [show fT (aa.size a0) a1 = -1 from bK (by unfold aa.size; omega)]; try rfl
  rw [cm c1, ck (by omega), cond_false]
  rw [show fT (aa.size a0) a1 = a1 - ((aq.size a0.ae : Nat) : Int) - ((di (fun y : aJ => aJ.size y) a0.bC : Nat) : Int) from by rw [cm (by unfold aa.size; omega)]; unfold aa.size; omega]
theorem ab : Valid Tryz.prog Ev 180 aK := W2 18 F mix au okF (.cons Z2.ab (.cons Z3.ab .nil)) Tryz.func180
end Z4
namespace Z5
inductive Pt where
 | p0 (a : List (List L)) (b : Int) (c : Int)
def pid : Pt → Nat
 | .p0 .. => 5
def bR : Pt → List V
 | .p0 a b c => [.sl none 193 a, .int .i64 b, .int .i64 c]
def bQ : Pt → List aI
 | .p0 a b c => []
def step (J : Pt → ay) : Pt → ay
 | .p0 a b c => (cond (decide (c < (a.length : Int))) (m2 c (a.length : Int) (call (Z4.R ((aC.at a (Int.toNat c)), b)) fun v1 => (cond (decide (v1 < 0)) (ret ((-1) : Int)) (J (.p0 a v1 (i64.wrap (c + 1))))))) (ret (b : Int)))
def start (J : Pt → ay) (x0 : List (List L)) (x1 : Int) : ay := (cond (decide ((i64.wrap (x1 - (x0.length : Int))) < 0)) (ret ((-1) : Int)) (J (.p0 x0 (i64.wrap (x1 - (x0.length : Int))) 0)))
def live : Nat → Live := fun i => match i with | 5 => [(0, none), (1, none), (5, none)] | _ => []
def md (a0 : List aa) (a1 : Int) : Int := fT (di (fun y : aa => aa.size y) a0) a1
def gd (a0 : List aa) (a1 : Int) : Prop := (bw maxLen (fun y : aa => aa.Sm maxLen y) a0) ∧ 0 ≤ a1 ∧ a1 ≤ 1048576
def R := RR (p2 gd) (u2 md)
theorem ai {a0 a1} (h : gd a0 a1) : R ((a0.map aa.row), a1) = some (md a0 a1) := aE (a := (a0, a1)) h
def aK := CN [pL 193, pI] oI RT.dec R
theorem okF (a0) (a1) (hg : gd a0 a1) : ∃ n, start (iter step n) (a0.map aa.row) a1 = ret (md a0 a1) := by
  obtain ⟨hs, g0, g1⟩ := hg
  unfold start md
  simp only [List.length_map]
  refine lq (pt := fun left i => Pt.p0 (a0.map aa.row) left (i : Int)) (f := fun y : aa => aa.size y) hs.1 (fun J i h left p0 p1 => ?_) (fun J left => ?_) g0 g1
  · simp only [step, MM, List.length_map, aD h, ax, cond_true, cg, aa.da h]
    rw [ba (Z4.ai ⟨hs.get h, p0, p1⟩), az h hs.1]
    unfold Z4.md
    by_cases hc : left < ((aa.size (a0[i]) : Nat) : Int)
    · rw [bK hc, if_pos hc]; rfl
    · rw [cm hc, if_neg hc, ck (by omega)]; rfl
  · simp only [step, List.length_map, dK, cond_false]
theorem ab : Valid Tryz.prog Ev 127 aK := L2 27 pid bR bQ live step start mix au okF (.cons Z4.ab .nil) Tryz.func127
end Z5
namespace Z6
inductive Pt where
 | p0 (a : List (List L)) (b : Int) (c : Int)
def pid : Pt → Nat
 | .p0 .. => 5
def bR : Pt → List V
 | .p0 a b c => [.sl none 107 a, .int .i64 b, .int .i64 c]
def bQ : Pt → List aI
 | .p0 a b c => []
def step (J : Pt → ay) : Pt → ay
 | .p0 a b c => (cond (decide (c < (a.length : Int))) (m2 c (a.length : Int) (call (Z5.R ((lA a (Int.toNat c)), b)) fun v1 => (cond (decide (v1 < 0)) (ret ((-1) : Int)) (J (.p0 a v1 (i64.wrap (c + 1))))))) (ret (b : Int)))
def start (J : Pt → ay) (x0 : List (List L)) (x1 : Int) : ay := (cond (decide ((i64.wrap (x1 - (x0.length : Int))) < 0)) (ret ((-1) : Int)) (J (.p0 x0 (i64.wrap (x1 - (x0.length : Int))) 0)))
def live : Nat → Live := fun i => match i with | 5 => [(0, none), (1, none), (5, none)] | _ => []
def md (a0 : List (List aa)) (a1 : Int) : Int := fT (di (fun y : List aa => di (fun y : aa => aa.size y) y) a0) a1
def gd (a0 : List (List aa)) (a1 : Int) : Prop := (bw maxLen (fun y : List aa => bw maxLen (fun y : aa => aa.Sm maxLen y) y) a0) ∧ 0 ≤ a1 ∧ a1 ≤ 1048576
def R := RR (p2 gd) (u2 md)
theorem ai {a0 a1} (h : gd a0 a1) : R ((a0.map (cM aa.row)), a1) = some (md a0 a1) := aE (a := (a0, a1)) h
def aK := CN [pL 107, pI] oI RT.dec R
theorem okF (a0) (a1) (hg : gd a0 a1) : ∃ n, start (iter step n) (a0.map (cM aa.row)) a1 = ret (md a0 a1) := by
  obtain ⟨hs, g0, g1⟩ := hg
  unfold start md
  simp only [List.length_map]
  refine lq (pt := fun left i => Pt.p0 (a0.map (cM aa.row)) left (i : Int)) (f := fun y : List aa => di (fun y : aa => aa.size y) y) hs.1 (fun J i h left p0 p1 => ?_) (fun J left => ?_) g0 g1
  · simp only [step, MM, List.length_map, aD h, ax, cond_true, cg, mH h]
    rw [ba (Z5.ai ⟨hs.get h, p0, p1⟩), az h hs.1]
    unfold Z5.md
    by_cases hc : left < ((di (fun y : aa => aa.size y) (a0[i]) : Nat) : Int)
    · rw [bK hc, if_pos hc]; rfl
    · rw [cm hc, if_neg hc, ck (by omega)]; rfl
  · simp only [step, List.length_map, dK, cond_false]
theorem ab : Valid Tryz.prog Ev 65 aK := L2 27 pid bR bQ live step start mix au okF (.cons Z5.ab .nil) Tryz.func65
end Z6
namespace Z7
def F (x0 : aZ) (x1 : Int) : ay := (call (Z4.R (x0.av, x1)) fun v1 => (cond (decide (v1 < 0)) (ret ((-1) : Int)) (call (Z4.R (x0.fA, v1)) fun v2 => (cond (decide (v2 < 0)) (ret ((-1) : Int)) (call (Z4.R (x0.fB, v2)) fun v3 => (cond (decide (v3 < 0)) (ret ((-1) : Int)) (ret (v3 : Int))))))))
def md (a0 : ao) (a1 : Int) : Int := fT (ao.size a0) a1
def gd (a0 : ao) (a1 : Int) : Prop := (ao.Sm maxLen a0) ∧ 0 ≤ a1 ∧ a1 ≤ 1048576
def R := RR (p2 gd) (u2 md)
theorem ai {a0 a1} (h : gd a0 a1) : R ((ao.r a0), a1) = some (md a0 a1) := aE (a := (a0, a1)) h
def aK := CN [.agg wx, pI] oI RT.dec R
theorem okF (a0) (a1) (hg : gd a0 a1) : F (ao.r a0) a1 = ret (md a0 a1) := by
  obtain ⟨hs, g0, g1⟩ := hg
  unfold md
  show (call (Z4.R ((aa.r a0.av), a1)) fun v1 => (bif (decide (v1 < 0)) then ret ((-1) : Int) else (call (Z4.R ((aa.r a0.fA), v1)) fun v2 => (bif (decide (v2 < 0)) then ret ((-1) : Int) else (call (Z4.R ((aa.r a0.fB), v2)) fun v3 => (cond (decide (v3 < 0)) (ret ((-1) : Int)) (ret (v3 : Int)))))))) = _
  rw [ba (Z4.ai (a1 := a1) ⟨hs.1, by omega, by omega⟩)]
  unfold Z4.md
  by_cases c0 : a1 < ((aa.size a0.av : Nat) : Int)
  · rw [bK c0]; rw [show fT (ao.size a0) a1 = -1 from bK (by unfold ao.size; omega)]; try rfl
  rw [cm c0, ck (by omega), cond_false]
  rw [ba (Z4.ai (a1 := (a1 - ((aa.size a0.av : Nat) : Int))) ⟨hs.2.1, by omega, by omega⟩)]
  unfold Z4.md
  by_cases c1 : (a1 - ((aa.size a0.av : Nat) : Int)) < ((aa.size a0.fA : Nat) : Int)
  · rw [bK c1]; rw [show fT (ao.size a0) a1 = -1 from bK (by unfold ao.size; omega)]; try rfl
  rw [cm c1, ck (by omega), cond_false]
  rw [ba (Z4.ai (a1 := (a1 - ((aa.size a0.av : Nat) : Int) - ((aa.size a0.fA : Nat) : Int))) ⟨hs.2.2, by omega, by omega⟩)]
  unfold Z4.md
  by_cases c2 : (a1 - ((aa.size a0.av : Nat) : Int) - ((aa.size a0.fA : Nat) : Int)) < ((aa.size a0.fB : Nat) : Int)
  · rw [bK c2]; rw [show fT (ao.size a0) a1 = -1 from bK (by unfold ao.size; omega)]; try rfl
  rw [cm c2, ck (by omega), cond_false]
  rw [show fT (ao.size a0) a1 = a1 - ((aa.size a0.av : Nat) : Int) - ((aa.size a0.fA : Nat) : Int) - ((aa.size a0.fB : Nat) : Int) from by rw [cm (by unfold ao.size; omega)]; unfold ao.size; omega]
theorem ab : Valid Tryz.prog Ev 128 aK := W2 24 F mix au okF (.cons Z4.ab .nil) Tryz.func128
end Z7
namespace Z8
inductive Pt where
 | p0 (a : List (List L)) (b : Int) (c : Int)
def pid : Pt → Nat
 | .p0 .. => 5
def bR : Pt → List V
 | .p0 a b c => [.sl none 195 a, .int .i64 b, .int .i64 c]
def bQ : Pt → List aI
 | .p0 a b c => []
def step (J : Pt → ay) : Pt → ay
 | .p0 a b c => (cond (decide (c < (a.length : Int))) (m2 c (a.length : Int) (call (Z7.R ((aZ.at a (Int.toNat c)), b)) fun v1 => (cond (decide (v1 < 0)) (ret ((-1) : Int)) (J (.p0 a v1 (i64.wrap (c + 1))))))) (ret (b : Int)))
def start (J : Pt → ay) (x0 : List (List L)) (x1 : Int) : ay := (cond (decide ((i64.wrap (x1 - (x0.length : Int))) < 0)) (ret ((-1) : Int)) (J (.p0 x0 (i64.wrap (x1 - (x0.length : Int))) 0)))
def live : Nat → Live := fun i => match i with | 5 => [(0, none), (1, none), (5, none)] | _ => []
def md (a0 : List ao) (a1 : Int) : Int := fT (di (fun y : ao => ao.size y) a0) a1
def gd (a0 : List ao) (a1 : Int) : Prop := (bw maxLen (fun y : ao => ao.Sm maxLen y) a0) ∧ 0 ≤ a1 ∧ a1 ≤ 1048576
def R := RR (p2 gd) (u2 md)
theorem ai {a0 a1} (h : gd a0 a1) : R ((a0.map ao.row), a1) = some (md a0 a1) := aE (a := (a0, a1)) h
def aK := CN [pL 195, pI] oI RT.dec R
theorem okF (a0) (a1) (hg : gd a0 a1) : ∃ n, start (iter step n) (a0.map ao.row) a1 = ret (md a0 a1) := by
  obtain ⟨hs, g0, g1⟩ := hg
  unfold start md
  simp only [List.length_map]
  refine lq (pt := fun left i => Pt.p0 (a0.map ao.row) left (i : Int)) (f := fun y : ao => ao.size y) hs.1 (fun J i h left p0 p1 => ?_) (fun J left => ?_) g0 g1
  · simp only [step, MM, List.length_map, aD h, ax, cond_true, cg, ao.da h]
    rw [ba (Z7.ai ⟨hs.get h, p0, p1⟩), az h hs.1]
    unfold Z7.md
    by_cases hc : left < ((ao.size (a0[i]) : Nat) : Int)
    · rw [bK hc, if_pos hc]; rfl
    · rw [cm hc, if_neg hc, ck (by omega)]; rfl
  · simp only [step, List.length_map, dK, cond_false]
theorem ab : Valid Tryz.prog Ev 66 aK := L2 27 pid bR bQ live step start mix au okF (.cons Z7.ab .nil) Tryz.func66
end Z8
namespace Z9
def F (x0 : aW) (x1 : Int) : ay := (call (Z6.R (x0.aA, x1)) fun v1 => (cond (decide (v1 < 0)) (ret ((-1) : Int)) (call (Z8.R (x0.aR, v1)) fun v2 => (cond (decide (v2 < 0)) (ret ((-1) : Int)) (ret (v2 : Int))))))
def md (a0 : ah) (a1 : Int) : Int := fT (ah.size a0) a1
def gd (a0 : ah) (a1 : Int) : Prop := (ah.Sm maxLen a0) ∧ 0 ≤ a1 ∧ a1 ≤ 1048576
def R := RR (p2 gd) (u2 md)
theorem ai {a0 a1} (h : gd a0 a1) : R ((ah.r a0), a1) = some (md a0 a1) := aE (a := (a0, a1)) h
def aK := CN [.agg xJ, pI] oI RT.dec R
theorem okF (a0) (a1) (hg : gd a0 a1) : F (ah.r a0) a1 = ret (md a0 a1) := by
  obtain ⟨hs, g0, g1⟩ := hg
  unfold md
  show (call (Z6.R ((a0.aA.map (cM aa.row)), a1)) fun v1 => (bif (decide (v1 < 0)) then ret ((-1) : Int) else (call (Z8.R ((a0.aR.map ao.row), v1)) fun v2 => (cond (decide (v2 < 0)) (ret ((-1) : Int)) (ret (v2 : Int)))))) = _
  rw [ba (Z6.ai (a1 := a1) ⟨hs.1, by omega, by omega⟩)]
  unfold Z6.md
  by_cases c0 : a1 < ((di (fun y : List aa => di (fun y : aa => aa.size y) y) a0.aA : Nat) : Int)
  · rw [bK c0]; rw [show fT (ah.size a0) a1 = -1 from bK (by unfold ah.size; omega)]; try rfl
  rw [cm c0, ck (by omega), cond_false]
  rw [ba (Z8.ai (a1 := (a1 - ((di (fun y : List aa => di (fun y : aa => aa.size y) y) a0.aA : Nat) : Int))) ⟨hs.2, by omega, by omega⟩)]
  unfold Z8.md
  by_cases c1 : (a1 - ((di (fun y : List aa => di (fun y : aa => aa.size y) y) a0.aA : Nat) : Int)) < ((di (fun y : ao => ao.size y) a0.aR : Nat) : Int)
  · rw [bK c1]; rw [show fT (ah.size a0) a1 = -1 from bK (by unfold ah.size; omega)]; try rfl
  rw [cm c1, ck (by omega), cond_false]
  rw [show fT (ah.size a0) a1 = a1 - ((di (fun y : List aa => di (fun y : aa => aa.size y) y) a0.aA : Nat) : Int) - ((di (fun y : ao => ao.size y) a0.aR : Nat) : Int) from by rw [cm (by unfold ah.size; omega)]; unfold ah.size; omega]
theorem ab : Valid Tryz.prog Ev 10 aK := W2 18 F mix au okF (.cons Z6.ab (.cons Z8.ab .nil)) Tryz.func10
end Z9
namespace Z10
inductive Pt where
 | p0 (a : List (List L)) (b : Int) (c : Int)
def pid : Pt → Nat
 | .p0 .. => 5
def bR : Pt → List V
 | .p0 a b c => [.sl none 9 a, .int .i64 b, .int .i64 c]
def bQ : Pt → List aI
 | .p0 a b c => []
def step (J : Pt → ay) : Pt → ay
 | .p0 a b c => (cond (decide (c < (a.length : Int))) (m2 c (a.length : Int) (cond (decide ((i64.wrap (b - ((pc a (Int.toNat c)).size : Int))) < 0)) (ret ((-1) : Int)) (J (.p0 a (i64.wrap (b - ((pc a (Int.toNat c)).size : Int))) (i64.wrap (c + 1)))))) (ret (b : Int)))
def start (J : Pt → ay) (x0 : List (List L)) (x1 : Int) : ay := (cond (decide ((i64.wrap (x1 - (x0.length : Int))) < 0)) (ret ((-1) : Int)) (J (.p0 x0 (i64.wrap (x1 - (x0.length : Int))) 0)))
def live : Nat → Live := fun i => match i with | 5 => [(0, none), (1, none), (5, none)] | _ => []
def md (a0 : List ByteArray) (a1 : Int) : Int := fT (di (fun y : ByteArray => y.size) a0) a1
def gd (a0 : List ByteArray) (a1 : Int) : Prop := (bw maxLen (fun y : ByteArray => y.size ≤ maxLen) a0) ∧ 0 ≤ a1 ∧ a1 ≤ 1048576
def R := RR (p2 gd) (u2 md)
theorem ai {a0 a1} (h : gd a0 a1) : R ((a0.map cu), a1) = some (md a0 a1) := aE (a := (a0, a1)) h
def aK := CN [pL 9, pI] oI RT.dec R
theorem okF (a0) (a1) (hg : gd a0 a1) : ∃ n, start (iter step n) (a0.map cu) a1 = ret (md a0 a1) := by
  obtain ⟨hs, g0, g1⟩ := hg
  unfold start md
  simp only [List.length_map]
  refine lq (pt := fun left i => Pt.p0 (a0.map cu) left (i : Int)) (f := fun y : ByteArray => y.size) hs.1 (fun J i h left p0 p1 => ?_) (fun J left => ?_) g0 g1
  · simp only [step, MM, List.length_map, aD h, ax, cond_true, cg, mC h]
    rw [kG p0 p1 (hs.get h), az h hs.1]
    by_cases hc : left - ((a0[i].size : Nat) : Int) < 0
    · rw [decide_eq_true hc, if_pos (by omega)]; rfl
    · rw [decide_eq_false hc, if_neg (by omega)]; rfl
  · simp only [step, List.length_map, dK, cond_false]
theorem ab : Valid Tryz.prog Ev 24 aK := L2 28 pid bR bQ live step start mix au okF .nil Tryz.func24
end Z10
namespace Z11
def F (x0 : bA) (x1 : Int) : ay := (cond (decide ((i64.wrap (x1 - (x0.aV.size : Int))) < 0)) (ret ((-1) : Int)) (call (Z10.R (x0.aU, (i64.wrap (x1 - (x0.aV.size : Int))))) fun v1 => (cond (decide (v1 < 0)) (ret ((-1) : Int)) (ret (v1 : Int)))))
def md (a0 : aj) (a1 : Int) : Int := fT (aj.size a0) a1
def gd (a0 : aj) (a1 : Int) : Prop := (aj.Sm maxLen a0) ∧ 0 ≤ a1 ∧ a1 ≤ 1048576
def R := RR (p2 gd) (u2 md)
theorem ai {a0 a1} (h : gd a0 a1) : R ((aj.r a0), a1) = some (md a0 a1) := aE (a := (a0, a1)) h
def aK := CN [.agg vJ, pI] oI RT.dec R
theorem okF (a0) (a1) (hg : gd a0 a1) : F (aj.r a0) a1 = ret (md a0 a1) := by
  obtain ⟨hs, g0, g1⟩ := hg
  unfold md
  show (bif (decide ((i64.wrap (a1 - (a0.aV.size : Int))) < 0)) then ret ((-1) : Int) else (call (Z10.R ((a0.aU.map cu), (i64.wrap (a1 - (a0.aV.size : Int))))) fun v1 => (cond (decide (v1 < 0)) (ret ((-1) : Int)) (ret (v1 : Int))))) = _
  rw [kG (left := a1) (s := a0.aV.size) (by omega) (by omega) hs.1]
  by_cases c0 : a1 - ((a0.aV.size : Nat) : Int) < 0
  · rw [decide_eq_true c0, cond_true]; rw [show fT (aj.size a0) a1 = -1 from bK (by unfold aj.size; omega)]; try rfl
  rw [decide_eq_false c0, cond_false]
  rw [ba (Z10.ai (a1 := (a1 - ((a0.aV.size : Nat) : Int))) ⟨hs.2, by omega, by omega⟩)]
  unfold Z10.md
  by_cases c1 : (a1 - ((a0.aV.size : Nat) : Int)) < ((di (fun y : ByteArray => y.size) a0.aU : Nat) : Int)
  · rw [bK c1]; rw [show fT (aj.size a0) a1 = -1 from bK (by unfold aj.size; omega)]; try rfl
  rw [cm c1, ck (by omega), cond_false]
  rw [show fT (aj.size a0) a1 = a1 - ((a0.aV.size : Nat) : Int) - ((di (fun y : ByteArray => y.size) a0.aU : Nat) : Int) from by rw [cm (by unfold aj.size; omega)]; unfold aj.size; omega]
theorem ab : Valid Tryz.prog Ev 129 aK := W2 19 F mix au okF (.cons Z10.ab .nil) Tryz.func129
end Z11
namespace Z12
def F (x0 : cn) (x1 : Int) : ay := (call (Z0.R (x0.aU, x1)) fun v1 => (cond (decide (v1 < 0)) (ret ((-1) : Int)) (ret (v1 : Int))))
def md (a0 : aB) (a1 : Int) : Int := fT (aB.size a0) a1
def gd (a0 : aB) (a1 : Int) : Prop := (aB.Sm maxLen a0) ∧ 0 ≤ a1 ∧ a1 ≤ 1048576
def R := RR (p2 gd) (u2 md)
theorem ai {a0 a1} (h : gd a0 a1) : R ((aB.r a0), a1) = some (md a0 a1) := aE (a := (a0, a1)) h
def aK := CN [.agg vQ, pI] oI RT.dec R
theorem okF (a0) (a1) (hg : gd a0 a1) : F (aB.r a0) a1 = ret (md a0 a1) := by
  obtain ⟨hs, g0, g1⟩ := hg
  unfold md
  show (call (Z0.R ((a0.aU.map aP), a1)) fun v1 => (cond (decide (v1 < 0)) (ret ((-1) : Int)) (ret (v1 : Int)))) = _
  rw [ba (Z0.ai (a1 := a1) ⟨hs, by omega, by omega⟩)]
  unfold Z0.md
  by_cases c0 : a1 < ((di (fun y : Int => 0) a0.aU : Nat) : Int)
  · rw [bK c0]; rw [show fT (aB.size a0) a1 = -1 from bK (by unfold aB.size; omega)]; try rfl
  rw [cm c0, ck (by omega), cond_false]
  rw [show fT (aB.size a0) a1 = a1 - ((di (fun y : Int => 0) a0.aU : Nat) : Int) from by rw [cm (by unfold aB.size; omega)]; unfold aB.size; omega]
theorem ab : Valid Tryz.prog Ev 130 aK := W2 12 F mix au okF (.cons Z0.ab .nil) Tryz.func130
end Z12
namespace Z13
def F (x0 : eI) (x1 : Int) : ay := (call (Z11.R (x0.av, x1)) fun v1 => (cond (decide (v1 < 0)) (ret ((-1) : Int)) (call (Z11.R (x0.bm, v1)) fun v2 => (cond (decide (v2 < 0)) (ret ((-1) : Int)) (call (Z12.R (x0.cq, v2)) fun v3 => (cond (decide (v3 < 0)) (ret ((-1) : Int)) (call (Z12.R (x0.bD, v3)) fun v4 => (cond (decide (v4 < 0)) (ret ((-1) : Int)) (ret (v4 : Int))))))))))
def md (a0 : bt) (a1 : Int) : Int := fT (bt.size a0) a1
def gd (a0 : bt) (a1 : Int) : Prop := (bt.Sm maxLen a0) ∧ 0 ≤ a1 ∧ a1 ≤ 1048576
def R := RR (p2 gd) (u2 md)
theorem ai {a0 a1} (h : gd a0 a1) : R ((bt.r a0), a1) = some (md a0 a1) := aE (a := (a0, a1)) h
def aK := CN [.agg wq, pI] oI RT.dec R
theorem okF (a0) (a1) (hg : gd a0 a1) : F (bt.r a0) a1 = ret (md a0 a1) := by
  obtain ⟨hs, g0, g1⟩ := hg
  unfold md
  show (call (Z11.R ((aj.r a0.av), a1)) fun v1 => (bif (decide (v1 < 0)) then ret ((-1) : Int) else (call (Z11.R ((aj.r a0.bm), v1)) fun v2 => (bif (decide (v2 < 0)) then ret ((-1) : Int) else (call (Z12.R ((aB.r a0.cq), v2)) fun v3 => (bif (decide (v3 < 0)) then ret ((-1) : Int) else (call (Z12.R ((aB.r a0.bD), v3)) fun v4 => (cond (decide (v4 < 0)) (ret ((-1) : Int)) (ret (v4 : Int)))))))))) = _
  rw [ba (Z11.ai (a1 := a1) ⟨hs.1, by omega, by omega⟩)]
  unfold Z11.md
  by_cases c0 : a1 < ((aj.size a0.av : Nat) : Int)
  · rw [bK c0]; rw [show fT (bt.size a0) a1 = -1 from bK (by unfold bt.size; omega)]; try rfl
  rw [cm c0, ck (by omega), cond_false]
  rw [ba (Z11.ai (a1 := (a1 - ((aj.size a0.av : Nat) : Int))) ⟨hs.2.1, by omega, by omega⟩)]
  unfold Z11.md
  by_cases c1 : (a1 - ((aj.size a0.av : Nat) : Int)) < ((aj.size a0.bm : Nat) : Int)
  · rw [bK c1]; rw [show fT (bt.size a0) a1 = -1 from bK (by unfold bt.size; omega)]; try rfl
  rw [cm c1, ck (by omega), cond_false]
  rw [ba (Z12.ai (a1 := (a1 - ((aj.size a0.av : Nat) : Int) - ((aj.size a0.bm : Nat) : Int))) ⟨hs.2.2.1, by omega, by omega⟩)]
  unfold Z12.md
  by_cases c2 : (a1 - ((aj.size a0.av : Nat) : Int) - ((aj.size a0.bm : Nat) : Int)) < ((aB.size a0.cq : Nat) : Int)
  · rw [bK c2]; rw [show fT (bt.size a0) a1 = -1 from bK (by unfold bt.size; omega)]; try rfl
  rw [cm c2, ck (by omega), cond_false]
  rw [ba (Z12.ai (a1 := (a1 - ((aj.size a0.av : Nat) : Int) - ((aj.size a0.bm : Nat) : Int) - ((aB.size a0.cq : Nat) : Int))) ⟨hs.2.2.2, by omega, by omega⟩)]
  unfold Z12.md
  by_cases c3 : (a1 - ((aj.size a0.av : Nat) : Int) - ((aj.size a0.bm : Nat) : Int) - ((aB.size a0.cq : Nat) : Int)) < ((aB.size a0.bD : Nat) : Int)
  · rw [bK c3]; rw [show fT (bt.size a0) a1 = -1 from bK (by unfold bt.size; omega)]; try rfl
  rw [cm c3, ck (by omega), cond_false]
  rw [show fT (bt.size a0) a1 = a1 - ((aj.size a0.av : Nat) : Int) - ((aj.size a0.bm : Nat) : Int) - ((aB.size a0.cq : Nat) : Int) - ((aB.size a0.bD : Nat) : Int) from by rw [cm (by unfold bt.size; omega)]; unfold bt.size; omega]
theorem ab : Valid Tryz.prog Ev 131 aK := W2 30 F mix au okF (.cons Z11.ab (.cons Z12.ab .nil)) Tryz.func131
end Z13
namespace Z14
def F (x0 : bd) (x1 : Int) : ay := (call (Z5.R (x0.aL, x1)) fun v1 => (cond (decide (v1 < 0)) (ret ((-1) : Int)) (call (Z11.R (x0.aH, v1)) fun v2 => (cond (decide (v2 < 0)) (ret ((-1) : Int)) (call (Z12.R (x0.cE, v2)) fun v3 => (cond (decide (v3 < 0)) (ret ((-1) : Int)) (call (Z13.R (x0.cL, v3)) fun v4 => (cond (decide (v4 < 0)) (ret ((-1) : Int)) (ret (v4 : Int))))))))))
def md (a0 : ad) (a1 : Int) : Int := fT (ad.size a0) a1
def gd (a0 : ad) (a1 : Int) : Prop := (ad.Sm maxLen a0) ∧ 0 ≤ a1 ∧ a1 ≤ 1048576
def R := RR (p2 gd) (u2 md)
theorem ai {a0 a1} (h : gd a0 a1) : R ((ad.r a0), a1) = some (md a0 a1) := aE (a := (a0, a1)) h
def aK := CN [.agg vL, pI] oI RT.dec R
theorem okF (a0) (a1) (hg : gd a0 a1) : F (ad.r a0) a1 = ret (md a0 a1) := by
  obtain ⟨hs, g0, g1⟩ := hg
  unfold md
  show (call (Z5.R ((a0.aL.map aa.row), a1)) fun v1 => (bif (decide (v1 < 0)) then ret ((-1) : Int) else (call (Z11.R ((aj.r a0.aH), v1)) fun v2 => (bif (decide (v2 < 0)) then ret ((-1) : Int) else (call (Z12.R ((aB.r a0.cE), v2)) fun v3 => (bif (decide (v3 < 0)) then ret ((-1) : Int) else (call (Z13.R ((bt.r a0.cL), v3)) fun v4 => (cond (decide (v4 < 0)) (ret ((-1) : Int)) (ret (v4 : Int)))))))))) = _
  rw [ba (Z5.ai (a1 := a1) ⟨hs.1, by omega, by omega⟩)]
  unfold Z5.md
  by_cases c0 : a1 < ((di (fun y : aa => aa.size y) a0.aL : Nat) : Int)
  · rw [bK c0]; rw [show fT (ad.size a0) a1 = -1 from bK (by unfold ad.size; omega)]; try rfl
  rw [cm c0, ck (by omega), cond_false]
  rw [ba (Z11.ai (a1 := (a1 - ((di (fun y : aa => aa.size y) a0.aL : Nat) : Int))) ⟨hs.2.1, by omega, by omega⟩)]
  unfold Z11.md
  by_cases c1 : (a1 - ((di (fun y : aa => aa.size y) a0.aL : Nat) : Int)) < ((aj.size a0.aH : Nat) : Int)
  · rw [bK c1]; rw [show fT (ad.size a0) a1 = -1 from bK (by unfold ad.size; omega)]; try rfl
  rw [cm c1, ck (by omega), cond_false]
  rw [ba (Z12.ai (a1 := (a1 - ((di (fun y : aa => aa.size y) a0.aL : Nat) : Int) - ((aj.size a0.aH : Nat) : Int))) ⟨hs.2.2.1, by omega, by omega⟩)]
  unfold Z12.md
  by_cases c2 : (a1 - ((di (fun y : aa => aa.size y) a0.aL : Nat) : Int) - ((aj.size a0.aH : Nat) : Int)) < ((aB.size a0.cE : Nat) : Int)
  · rw [bK c2]; rw [show fT (ad.size a0) a1 = -1 from bK (by unfold ad.size; omega)]; try rfl
  rw [cm c2, ck (by omega), cond_false]
  rw [ba (Z13.ai (a1 := (a1 - ((di (fun y : aa => aa.size y) a0.aL : Nat) : Int) - ((aj.size a0.aH : Nat) : Int) - ((aB.size a0.cE : Nat) : Int))) ⟨hs.2.2.2, by omega, by omega⟩)]
  unfold Z13.md
  by_cases c3 : (a1 - ((di (fun y : aa => aa.size y) a0.aL : Nat) : Int) - ((aj.size a0.aH : Nat) : Int) - ((aB.size a0.cE : Nat) : Int)) < ((bt.size a0.cL : Nat) : Int)
  · rw [bK c3]; rw [show fT (ad.size a0) a1 = -1 from bK (by unfold ad.size; omega)]; try rfl
  rw [cm c3, ck (by omega), cond_false]
  rw [show fT (ad.size a0) a1 = a1 - ((di (fun y : aa => aa.size y) a0.aL : Nat) : Int) - ((aj.size a0.aH : Nat) : Int) - ((aB.size a0.cE : Nat) : Int) - ((bt.size a0.cL : Nat) : Int) from by rw [cm (by unfold ad.size; omega)]; unfold ad.size; omega]
theorem ab : Valid Tryz.prog Ev 67 aK := W2 30 F mix au okF (.cons Z5.ab (.cons Z11.ab (.cons Z12.ab (.cons Z13.ab .nil)))) Tryz.func67
end Z14
namespace Z15
inductive Pt where
 | p0 (a : List (List L)) (b : Int) (c : Int)
def pid : Pt → Nat
 | .p0 .. => 5
def bR : Pt → List V
 | .p0 a b c => [.sl none 114 a, .int .i64 b, .int .i64 c]
def bQ : Pt → List aI
 | .p0 a b c => []
def step (J : Pt → ay) : Pt → ay
 | .p0 a b c => (cond (decide (c < (a.length : Int))) (m2 c (a.length : Int) (call (Z14.R ((bd.at a (Int.toNat c)), b)) fun v1 => (cond (decide (v1 < 0)) (ret ((-1) : Int)) (J (.p0 a v1 (i64.wrap (c + 1))))))) (ret (b : Int)))
def start (J : Pt → ay) (x0 : List (List L)) (x1 : Int) : ay := (cond (decide ((i64.wrap (x1 - (x0.length : Int))) < 0)) (ret ((-1) : Int)) (J (.p0 x0 (i64.wrap (x1 - (x0.length : Int))) 0)))
def live : Nat → Live := fun i => match i with | 5 => [(0, none), (1, none), (5, none)] | _ => []
def md (a0 : List ad) (a1 : Int) : Int := fT (di (fun y : ad => ad.size y) a0) a1
def gd (a0 : List ad) (a1 : Int) : Prop := (bw maxLen (fun y : ad => ad.Sm maxLen y) a0) ∧ 0 ≤ a1 ∧ a1 ≤ 1048576
def R := RR (p2 gd) (u2 md)
theorem ai {a0 a1} (h : gd a0 a1) : R ((a0.map ad.row), a1) = some (md a0 a1) := aE (a := (a0, a1)) h
def aK := CN [pL 114, pI] oI RT.dec R
theorem okF (a0) (a1) (hg : gd a0 a1) : ∃ n, start (iter step n) (a0.map ad.row) a1 = ret (md a0 a1) := by
  obtain ⟨hs, g0, g1⟩ := hg
  unfold start md
  simp only [List.length_map]
  refine lq (pt := fun left i => Pt.p0 (a0.map ad.row) left (i : Int)) (f := fun y : ad => ad.size y) hs.1 (fun J i h left p0 p1 => ?_) (fun J left => ?_) g0 g1
  · simp only [step, MM, List.length_map, aD h, ax, cond_true, cg, ad.da h]
    rw [ba (Z14.ai ⟨hs.get h, p0, p1⟩), az h hs.1]
    unfold Z14.md
    by_cases hc : left < ((ad.size (a0[i]) : Nat) : Int)
    · rw [bK hc, if_pos hc]; rfl
    · rw [cm hc, if_neg hc, ck (by omega)]; rfl
  · simp only [step, List.length_map, dK, cond_false]
theorem ab : Valid Tryz.prog Ev 11 aK := L2 27 pid bR bQ live step start mix au okF (.cons Z14.ab .nil) Tryz.func11
end Z15
namespace Z16
inductive Pt where
 | p0 (a : List (List L)) (b : Int) (c : List (List L))
def pid : Pt → Nat
 | .p0 .. => 3
def bR : Pt → List V
 | .p0 a b c => [.sl none 3 a, .own 0, .int .i64 b]
def bQ : Pt → List aI
 | .p0 a b c => [.row 3 c]
def step (J : Pt → ay) : Pt → ay
 | .p0 a b c => (cond (decide (b < (a.length : Int))) (m2 b (a.length : Int) (m2 b (c.length : Int) (J (.p0 a (i64.wrap (b + 1)) (List.set c (Int.toNat b) [L.int (iu a (Int.toNat b))]))))) (ret (c : List (List L))))
def start (J : Pt → ay) (x0 : List (List L)) : ay := (bJ (decide ((0 : Int) ≤ (x0.length : Int))) (bJ (decide ((x0.length : Int) ≤ (x0.length : Int))) (bJ (decide ((x0.length : Int) * 8 ≤ 140737488355328)) (J (.p0 x0 0 (List.replicate (Int.toNat (x0.length : Int)) [L.int 0]))))))
def live : Nat → Live := fun i => match i with | 3 => [(0, none), (3, none), (4, none)] | _ => []
def md (a0 : List Int) : List Int := a0
def gd (a0 : List Int) : Prop := bw (2 ^ 36) (fun y : Int => True) a0
def R := RR gd md
theorem ai {a0} (h : gd a0) : R (a0.map aP) = some (a0.map aP) := aE (a := a0) h
def aK := CN [pL 3] (oL 3) RT.dec R
theorem okF (a0) (hg : gd a0) : ∃ n, start (iter step n) (a0.map aP) = ret ((md a0).map aP) := by
  unfold start md
  simp only [List.length_map]
  refine iX (b := 8) (pt := fun i c => Pt.p0 (a0.map aP) (i : Int) c) (by have := hg.1; simp at this; omega) (fun J i h c hc => ?_) (fun J c => ?_)
  · simp only [step, MM, List.length_map, aD h, ax, cond_true, cg, pC h, hc]
    rw [az (n := a0.length) h (by have := hg.1; simp only [maxLen]; simp at this; omega)]
    rfl
  · simp only [step, List.length_map, dK, cond_false]
theorem ab : Valid Tryz.prog Ev 193 aK := L1 22 pid bR bQ live step start mix au okF .nil Tryz.func193
end Z16
namespace Z17
def F (x0 : aO) : ay := (call (Z16.R x0.aF) fun v1 => ret ((⟨v1, x0.bH⟩ : aO) : aO))
def md (a0 : aw) : aw := a0
def gd (a0 : aw) : Prop := aw.Sm (2 ^ 36) a0
def R := RR gd md
theorem ai {a0} (h : gd a0) : R (aw.r a0) = some (aw.r a0) := aE (a := a0) h
def aK := CN [.agg wo] (.agg f123) RT.dec R
theorem okF (a0) (hg : gd a0) : F (aw.r a0) = ret (aw.r (md a0)) := by
 unfold md
 show (call (Z16.R (a0.aF.map aP)) fun v1 => ret ((⟨v1, a0.bH⟩ : aO) : aO)) = _
 rw [ba (Z16.ai hg)]
 rfl
theorem ab : Valid Tryz.prog Ev 285 aK := W1 12 F mix au okF (.cons Z16.ab .nil) Tryz.func285
end Z17
namespace Z18
def F (x0 : bq) : ay := (call (Z17.R x0.bh) fun v1 => (call (Z17.R x0.aQ) fun v2 => (call (Z17.R x0.aM) fun v3 => ret ((⟨x0.aT, x0.bN, x0.bg, x0.bL, x0.bF, x0.bG, x0.cj, x0.cB, v1, v2, x0.cf, v3, x0.aS⟩ : bq) : bq))))
def md (a0 : aq) : aq := a0
def gd (a0 : aq) : Prop := aq.Sm (2 ^ 36) a0
def R := RR gd md
theorem ai {a0} (h : gd a0) : R (aq.r a0) = some (aq.r a0) := aE (a := a0) h
def aK := CN [.agg vH] (.agg f125) RT.dec R
theorem okF (a0) (hg : gd a0) : F (aq.r a0) = ret (aq.r (md a0)) := by
 unfold md
 show (call (Z17.R (aw.r a0.bh)) fun v1 => (call (Z17.R (aw.r a0.aQ)) fun v2 => (call (Z17.R (aw.r a0.aM)) fun v3 => ret ((⟨a0.aT, a0.bN, a0.bg, a0.bL, a0.bF, a0.bG, a0.cj, a0.cB, v1, v2, a0.cf, v3, a0.aS⟩ : bq) : bq)))) = _
 rw [ba (Z17.ai hg.1)]
 rw [ba (Z17.ai hg.2.1)]
 rw [ba (Z17.ai hg.2.2)]
 rfl
theorem ab : Valid Tryz.prog Ev 237 aK := W1 47 F mix au okF (.cons Z17.ab .nil) Tryz.func237
end Z18
namespace Z19
def F (x0 : aJ) : ay := ret (x0 : aJ)
def md (a0 : aJ) : aJ := a0
def gd (a0 : aJ) : Prop := aJ.Sm (2 ^ 36) a0
def R := RR gd md
theorem ai {a0} (h : gd a0) : R a0 = some a0 := aE (a := a0) h
def aK := CN [.agg wO] (.agg f264) RT.dec R
theorem okF (a0) (hg : gd a0) : F a0 = ret (md a0) := by
 rfl
theorem ab : Valid Tryz.prog Ev 286 aK := W1 11 F mix au okF .nil Tryz.func286
end Z19
namespace Z20
inductive Pt where
 | p0 (a : List (List L)) (b : Int) (c : List (List L))
def pid : Pt → Nat
 | .p0 .. => 3
def bR : Pt → List V
 | .p0 a b c => [.sl none 323 a, .own 0, .int .i64 b]
def bQ : Pt → List aI
 | .p0 a b c => [.row 264 c]
def step (J : Pt → ay) : Pt → ay
 | .p0 a b c => (cond (decide (b < (a.length : Int))) (m2 b (a.length : Int) (call (Z19.R (aJ.at a (Int.toNat b))) fun v1 => (m2 b (c.length : Int) (J (.p0 a (i64.wrap (b + 1)) (List.set c (Int.toNat b) (aJ.enc v1))))))) (ret (c : List (List L))))
def start (J : Pt → ay) (x0 : List (List L)) : ay := (bJ (decide ((0 : Int) ≤ (x0.length : Int))) (bJ (decide ((x0.length : Int) ≤ (x0.length : Int))) (bJ (decide ((x0.length : Int) * 16 ≤ 140737488355328)) (J (.p0 x0 0 (List.replicate (Int.toNat (x0.length : Int)) [L.int 0, L.int 0]))))))
def live : Nat → Live := fun i => match i with | 3 => [(0, none), (3, none), (4, none)] | _ => []
def md (a0 : List aJ) : List aJ := a0
def gd (a0 : List aJ) : Prop := bw (2 ^ 36) (fun y : aJ => aJ.Sm (2 ^ 36) y) a0
def R := RR gd md
theorem ai {a0} (h : gd a0) : R (a0.map aJ.row) = some (a0.map aJ.row) := aE (a := a0) h
def aK := CN [pL 323] (oL 264) RT.dec R
theorem okF (a0) (hg : gd a0) : ∃ n, start (iter step n) (a0.map aJ.row) = ret ((md a0).map aJ.row) := by
  unfold start md
  simp only [List.length_map]
  refine iX (b := 16) (pt := fun i c => Pt.p0 (a0.map aJ.row) (i : Int) c) (by have := hg.1; simp at this; omega) (fun J i h c hc => ?_) (fun J c => ?_)
  · simp only [step, MM, List.length_map, aD h, ax, cond_true, cg, aJ.da h, hc]
    rw [ba (Z19.ai (hg.get h))]
    try simp only [hc, aD h, cond_true]
    rw [az (n := a0.length) h (by have := hg.1; simp only [maxLen]; simp at this; omega)]
    rfl
  · simp only [step, List.length_map, dK, cond_false]
theorem ab : Valid Tryz.prog Ev 238 aK := L1 23 pid bR bQ live step start mix au okF (.cons Z19.ab .nil) Tryz.func238
end Z20
namespace Z21
def F (x0 : aC) : ay := (call (Z18.R x0.ae) fun v1 => (call (Z20.R x0.bC) fun v2 => ret ((⟨v1, v2⟩ : aC) : aC)))
def md (a0 : aa) : aa := a0
def gd (a0 : aa) : Prop := aa.Sm (2 ^ 36) a0
def R := RR gd md
theorem ai {a0} (h : gd a0) : R (aa.r a0) = some (aa.r a0) := aE (a := a0) h
def aK := CN [.agg vW] (.agg f202) RT.dec R
theorem okF (a0) (hg : gd a0) : F (aa.r a0) = ret (aa.r (md a0)) := by
 unfold md
 show (call (Z18.R (aq.r a0.ae)) fun v1 => (call (Z20.R (a0.bC.map aJ.row)) fun v2 => ret ((⟨v1, v2⟩ : aC) : aC))) = _
 rw [ba (Z18.ai hg.1)]
 rw [ba (Z20.ai hg.2)]
 rfl
theorem ab : Valid Tryz.prog Ev 192 aK := W1 13 F mix au okF (.cons Z18.ab (.cons Z20.ab .nil)) Tryz.func192
end Z21
namespace Z22
inductive Pt where
 | p0 (a : List (List L)) (b : Int) (c : List (List L))
def pid : Pt → Nat
 | .p0 .. => 3
def bR : Pt → List V
 | .p0 a b c => [.sl none 193 a, .own 0, .int .i64 b]
def bQ : Pt → List aI
 | .p0 a b c => [.row 202 c]
def step (J : Pt → ay) : Pt → ay
 | .p0 a b c => (cond (decide (b < (a.length : Int))) (m2 b (a.length : Int) (call (Z21.R (aC.at a (Int.toNat b))) fun v1 => (m2 b (c.length : Int) (J (.p0 a (i64.wrap (b + 1)) (List.set c (Int.toNat b) (aC.enc v1))))))) (ret (c : List (List L))))
def start (J : Pt → ay) (x0 : List (List L)) : ay := (bJ (decide ((0 : Int) ≤ (x0.length : Int))) (bJ (decide ((x0.length : Int) ≤ (x0.length : Int))) (bJ (decide ((x0.length : Int) * 200 ≤ 140737488355328)) (J (.p0 x0 0 (List.replicate (Int.toNat (x0.length : Int)) [L.int 0, L.int 0, L.int 0, L.int 0, L.int 0, L.int 0, L.int 0, L.int 0, L.sl [], L.int 0, L.sl [], L.int 0, L.int 0, L.sl [], L.int 0, L.bool false, L.sl []]))))))
def live : Nat → Live := fun i => match i with | 3 => [(0, none), (3, none), (4, none)] | _ => []
def md (a0 : List aa) : List aa := a0
def gd (a0 : List aa) : Prop := bw (2 ^ 36) (fun y : aa => aa.Sm (2 ^ 36) y) a0
def R := RR gd md
theorem ai {a0} (h : gd a0) : R (a0.map aa.row) = some (a0.map aa.row) := aE (a := a0) h
def aK := CN [pL 193] (oL 202) RT.dec R
theorem okF (a0) (hg : gd a0) : ∃ n, start (iter step n) (a0.map aa.row) = ret ((md a0).map aa.row) := by
  unfold start md
  simp only [List.length_map]
  refine iX (b := 200) (pt := fun i c => Pt.p0 (a0.map aa.row) (i : Int) c) (by have := hg.1; simp at this; omega) (fun J i h c hc => ?_) (fun J c => ?_)
  · simp only [step, MM, List.length_map, aD h, ax, cond_true, cg, aa.da h, hc]
    rw [ba (Z21.ai (hg.get h))]
    try simp only [hc, aD h, cond_true]
    rw [az (n := a0.length) h (by have := hg.1; simp only [maxLen]; simp at this; omega)]
    rfl
  · simp only [step, List.length_map, dK, cond_false]
theorem ab : Valid Tryz.prog Ev 142 aK := L1 23 pid bR bQ live step start mix au okF (.cons Z21.ab .nil) Tryz.func142
end Z22
namespace Z23
inductive Pt where
 | p0 (a : List (List L)) (b : Int) (c : List (List L))
def pid : Pt → Nat
 | .p0 .. => 3
def bR : Pt → List V
 | .p0 a b c => [.sl none 107 a, .own 0, .int .i64 b]
def bQ : Pt → List aI
 | .p0 a b c => [.row 116 c]
def step (J : Pt → ay) : Pt → ay
 | .p0 a b c => (cond (decide (b < (a.length : Int))) (m2 b (a.length : Int) (call (Z22.R (lA a (Int.toNat b))) fun v1 => (m2 b (c.length : Int) (J (.p0 a (i64.wrap (b + 1)) (List.set c (Int.toNat b) [L.sl v1])))))) (ret (c : List (List L))))
def start (J : Pt → ay) (x0 : List (List L)) : ay := (bJ (decide ((0 : Int) ≤ (x0.length : Int))) (bJ (decide ((x0.length : Int) ≤ (x0.length : Int))) (bJ (decide ((x0.length : Int) * 24 ≤ 140737488355328)) (J (.p0 x0 0 (List.replicate (Int.toNat (x0.length : Int)) [L.sl []]))))))
def live : Nat → Live := fun i => match i with | 3 => [(0, none), (3, none), (4, none)] | _ => []
def md (a0 : List (List aa)) : List (List aa) := a0
def gd (a0 : List (List aa)) : Prop := bw (2 ^ 36) (fun y : List aa => bw (2 ^ 36) (fun y : aa => aa.Sm (2 ^ 36) y) y) a0
def R := RR gd md
theorem ai {a0} (h : gd a0) : R (a0.map (cM aa.row)) = some (a0.map (cM aa.row)) := aE (a := a0) h
def aK := CN [pL 107] (oL 116) RT.dec R
theorem okF (a0) (hg : gd a0) : ∃ n, start (iter step n) (a0.map (cM aa.row)) = ret ((md a0).map (cM aa.row)) := by
  unfold start md
  simp only [List.length_map]
  refine iX (b := 24) (pt := fun i c => Pt.p0 (a0.map (cM aa.row)) (i : Int) c) (by have := hg.1; simp at this; omega) (fun J i h c hc => ?_) (fun J c => ?_)
  · simp only [step, MM, List.length_map, aD h, ax, cond_true, cg, mH h, hc]
    rw [ba (Z22.ai (hg.get h))]
    try simp only [hc, aD h, cond_true]
    rw [az (n := a0.length) h (by have := hg.1; simp only [maxLen]; simp at this; omega)]
    rfl
  · simp only [step, List.length_map, dK, cond_false]
theorem ab : Valid Tryz.prog Ev 74 aK := L1 23 pid bR bQ live step start mix au okF (.cons Z22.ab .nil) Tryz.func74
end Z23
namespace Z24
def F (x0 : aZ) : ay := (call (Z21.R x0.av) fun v1 => (call (Z21.R x0.fA) fun v2 => (call (Z21.R x0.fB) fun v3 => ret ((⟨v1, v2, v3⟩ : aZ) : aZ))))
def md (a0 : ao) : ao := a0
def gd (a0 : ao) : Prop := ao.Sm (2 ^ 36) a0
def R := RR gd md
theorem ai {a0} (h : gd a0) : R (ao.r a0) = some (ao.r a0) := aE (a := a0) h
def aK := CN [.agg wx] (.agg f204) RT.dec R
theorem okF (a0) (hg : gd a0) : F (ao.r a0) = ret (ao.r (md a0)) := by
 unfold md
 show (call (Z21.R (aa.r a0.av)) fun v1 => (call (Z21.R (aa.r a0.fA)) fun v2 => (call (Z21.R (aa.r a0.fB)) fun v3 => ret ((⟨v1, v2, v3⟩ : aZ) : aZ)))) = _
 rw [ba (Z21.ai hg.1)]
 rw [ba (Z21.ai hg.2.1)]
 rw [ba (Z21.ai hg.2.2)]
 rfl
theorem ab : Valid Tryz.prog Ev 143 aK := W1 17 F mix au okF (.cons Z21.ab .nil) Tryz.func143
end Z24
namespace Z25
inductive Pt where
 | p0 (a : List (List L)) (b : Int) (c : List (List L))
def pid : Pt → Nat
 | .p0 .. => 3
def bR : Pt → List V
 | .p0 a b c => [.sl none 195 a, .own 0, .int .i64 b]
def bQ : Pt → List aI
 | .p0 a b c => [.row 204 c]
def step (J : Pt → ay) : Pt → ay
 | .p0 a b c => (cond (decide (b < (a.length : Int))) (m2 b (a.length : Int) (call (Z24.R (aZ.at a (Int.toNat b))) fun v1 => (m2 b (c.length : Int) (J (.p0 a (i64.wrap (b + 1)) (List.set c (Int.toNat b) (aZ.enc v1))))))) (ret (c : List (List L))))
def start (J : Pt → ay) (x0 : List (List L)) : ay := (bJ (decide ((0 : Int) ≤ (x0.length : Int))) (bJ (decide ((x0.length : Int) ≤ (x0.length : Int))) (bJ (decide ((x0.length : Int) * 600 ≤ 140737488355328)) (J (.p0 x0 0 (List.replicate (Int.toNat (x0.length : Int)) [L.int 0, L.int 0, L.int 0, L.int 0, L.int 0, L.int 0, L.int 0, L.int 0, L.sl [], L.int 0, L.sl [], L.int 0, L.int 0, L.sl [], L.int 0, L.bool false, L.sl [], L.int 0, L.int 0, L.int 0, L.int 0, L.int 0, L.int 0, L.int 0, L.int 0, L.sl [], L.int 0, L.sl [], L.int 0, L.int 0, L.sl [], L.int 0, L.bool false, L.sl [], L.int 0, L.int 0, L.int 0, L.int 0, L.int 0, L.int 0, L.int 0, L.int 0, L.sl [], L.int 0, L.sl [], L.int 0, L.int 0, L.sl [], L.int 0, L.bool false, L.sl []]))))))
def live : Nat → Live := fun i => match i with | 3 => [(0, none), (3, none), (4, none)] | _ => []
def md (a0 : List ao) : List ao := a0
def gd (a0 : List ao) : Prop := bw (2 ^ 36) (fun y : ao => ao.Sm (2 ^ 36) y) a0
def R := RR gd md
theorem ai {a0} (h : gd a0) : R (a0.map ao.row) = some (a0.map ao.row) := aE (a := a0) h
def aK := CN [pL 195] (oL 204) RT.dec R
theorem okF (a0) (hg : gd a0) : ∃ n, start (iter step n) (a0.map ao.row) = ret ((md a0).map ao.row) := by
  unfold start md
  simp only [List.length_map]
  refine iX (b := 600) (pt := fun i c => Pt.p0 (a0.map ao.row) (i : Int) c) (by have := hg.1; simp at this; omega) (fun J i h c hc => ?_) (fun J c => ?_)
  · simp only [step, MM, List.length_map, aD h, ax, cond_true, cg, ao.da h, hc]
    rw [ba (Z24.ai (hg.get h))]
    try simp only [hc, aD h, cond_true]
    rw [az (n := a0.length) h (by have := hg.1; simp only [maxLen]; simp at this; omega)]
    rfl
  · simp only [step, List.length_map, dK, cond_false]
theorem ab : Valid Tryz.prog Ev 75 aK := L1 23 pid bR bQ live step start mix au okF (.cons Z24.ab .nil) Tryz.func75
end Z25
namespace Z26
def F (x0 : aW) : ay := (call (Z23.R x0.aA) fun v1 => (call (Z25.R x0.aR) fun v2 => ret ((⟨v1, v2⟩ : aW) : aW)))
def md (a0 : ah) : ah := a0
def gd (a0 : ah) : Prop := ah.Sm (2 ^ 36) a0
def R := RR gd md
theorem ai {a0} (h : gd a0) : R (ah.r a0) = some (ah.r a0) := aE (a := a0) h
def aK := CN [.agg xJ] (.agg f32) RT.dec R
theorem okF (a0) (hg : gd a0) : F (ah.r a0) = ret (ah.r (md a0)) := by
 unfold md
 show (call (Z23.R (a0.aA.map (cM aa.row))) fun v1 => (call (Z25.R (a0.aR.map ao.row)) fun v2 => ret ((⟨v1, v2⟩ : aW) : aW))) = _
 rw [ba (Z23.ai hg.1)]
 rw [ba (Z25.ai hg.2)]
 rfl
theorem ab : Valid Tryz.prog Ev 13 aK := W1 13 F mix au okF (.cons Z23.ab (.cons Z25.ab .nil)) Tryz.func13
end Z26
namespace Z27
inductive Pt where
 | p0 (a : List (List L)) (b : Int) (c : List (List L))
def pid : Pt → Nat
 | .p0 .. => 3
def bR : Pt → List V
 | .p0 a b c => [.sl none 9 a, .own 0, .int .i64 b]
def bQ : Pt → List aI
 | .p0 a b c => [.row 9 c]
def step (J : Pt → ay) : Pt → ay
 | .p0 a b c => (cond (decide (b < (a.length : Int))) (m2 b (a.length : Int) (m2 b (c.length : Int) (J (.p0 a (i64.wrap (b + 1)) (List.set c (Int.toNat b) [L.str (pc a (Int.toNat b))]))))) (ret (c : List (List L))))
def start (J : Pt → ay) (x0 : List (List L)) : ay := (bJ (decide ((0 : Int) ≤ (x0.length : Int))) (bJ (decide ((x0.length : Int) ≤ (x0.length : Int))) (bJ (decide ((x0.length : Int) * 16 ≤ 140737488355328)) (J (.p0 x0 0 (List.replicate (Int.toNat (x0.length : Int)) [L.str ⟨#[]⟩]))))))
def live : Nat → Live := fun i => match i with | 3 => [(0, none), (3, none), (4, none)] | _ => []
def md (a0 : List ByteArray) : List ByteArray := a0
def gd (a0 : List ByteArray) : Prop := bw (2 ^ 36) (fun y : ByteArray => y.size ≤ (2 ^ 36)) a0
def R := RR gd md
theorem ai {a0} (h : gd a0) : R (a0.map cu) = some (a0.map cu) := aE (a := a0) h
def aK := CN [pL 9] (oL 9) RT.dec R
theorem okF (a0) (hg : gd a0) : ∃ n, start (iter step n) (a0.map cu) = ret ((md a0).map cu) := by
  unfold start md
  simp only [List.length_map]
  refine iX (b := 16) (pt := fun i c => Pt.p0 (a0.map cu) (i : Int) c) (by have := hg.1; simp at this; omega) (fun J i h c hc => ?_) (fun J c => ?_)
  · simp only [step, MM, List.length_map, aD h, ax, cond_true, cg, mC h, hc]
    rw [az (n := a0.length) h (by have := hg.1; simp only [maxLen]; simp at this; omega)]
    rfl
  · simp only [step, List.length_map, dK, cond_false]
theorem ab : Valid Tryz.prog Ev 27 aK := L1 22 pid bR bQ live step start mix au okF .nil Tryz.func27
end Z27
namespace Z28
def F (x0 : bA) : ay := (call (Z27.R x0.aU) fun v1 => ret ((⟨x0.aV, x0.bg, x0.bE, v1⟩ : bA) : bA))
def md (a0 : aj) : aj := a0
def gd (a0 : aj) : Prop := aj.Sm (2 ^ 36) a0
def R := RR gd md
theorem ai {a0} (h : gd a0) : R (aj.r a0) = some (aj.r a0) := aE (a := a0) h
def aK := CN [.agg vJ] (.agg f35) RT.dec R
theorem okF (a0) (hg : gd a0) : F (aj.r a0) = ret (aj.r (md a0)) := by
 unfold md
 show (call (Z27.R (a0.aU.map cu)) fun v1 => ret ((⟨a0.aV, a0.bg, a0.bE, v1⟩ : bA) : bA)) = _
 rw [ba (Z27.ai hg.2)]
 rfl
theorem ab : Valid Tryz.prog Ev 144 aK := W1 18 F mix au okF (.cons Z27.ab .nil) Tryz.func144
end Z28
namespace Z29
def F (x0 : cn) : ay := (call (Z16.R x0.aU) fun v1 => ret ((⟨x0.cX, v1⟩ : cn) : cn))
def md (a0 : aB) : aB := a0
def gd (a0 : aB) : Prop := aB.Sm (2 ^ 36) a0
def R := RR gd md
theorem ai {a0} (h : gd a0) : R (aB.r a0) = some (aB.r a0) := aE (a := a0) h
def aK := CN [.agg vQ] (.agg f117) RT.dec R
theorem okF (a0) (hg : gd a0) : F (aB.r a0) = ret (aB.r (md a0)) := by
 unfold md
 show (call (Z16.R (a0.aU.map aP)) fun v1 => ret ((⟨a0.cX, v1⟩ : cn) : cn)) = _
 rw [ba (Z16.ai hg)]
 rfl
theorem ab : Valid Tryz.prog Ev 145 aK := W1 12 F mix au okF (.cons Z16.ab .nil) Tryz.func145
end Z29
namespace Z30
def F (x0 : eI) : ay := (call (Z28.R x0.av) fun v1 => (call (Z28.R x0.bm) fun v2 => (call (Z29.R x0.cq) fun v3 => (call (Z29.R x0.bD) fun v4 => ret ((⟨x0.cX, v1, v2, v3, v4⟩ : eI) : eI)))))
def md (a0 : bt) : bt := a0
def gd (a0 : bt) : Prop := bt.Sm (2 ^ 36) a0
def R := RR gd md
theorem ai {a0} (h : gd a0) : R (bt.r a0) = some (bt.r a0) := aE (a := a0) h
def aK := CN [.agg wq] (.agg f119) RT.dec R
theorem okF (a0) (hg : gd a0) : F (bt.r a0) = ret (bt.r (md a0)) := by
 unfold md
 show (call (Z28.R (aj.r a0.av)) fun v1 => (call (Z28.R (aj.r a0.bm)) fun v2 => (call (Z29.R (aB.r a0.cq)) fun v3 => (call (Z29.R (aB.r a0.bD)) fun v4 => ret ((⟨a0.cX, v1, v2, v3, v4⟩ : eI) : eI))))) = _
 rw [ba (Z28.ai hg.1)]
 rw [ba (Z28.ai hg.2.1)]
 rw [ba (Z29.ai hg.2.2.1)]
 rw [ba (Z29.ai hg.2.2.2)]
 rfl
theorem ab : Valid Tryz.prog Ev 146 aK := W1 24 F mix au okF (.cons Z28.ab (.cons Z29.ab .nil)) Tryz.func146
end Z30
namespace Z31
def F (x0 : bd) : ay := (call (Z22.R x0.aL) fun v1 => (call (Z28.R x0.aH) fun v2 => (call (Z29.R x0.cE) fun v3 => (call (Z30.R x0.cL) fun v4 => ret ((⟨v1, x0.bu, v2, v3, v4⟩ : bd) : bd)))))
def md (a0 : ad) : ad := a0
def gd (a0 : ad) : Prop := ad.Sm (2 ^ 36) a0
def R := RR gd md
theorem ai {a0} (h : gd a0) : R (ad.r a0) = some (ad.r a0) := aE (a := a0) h
def aK := CN [.agg vL] (.agg f121) RT.dec R
theorem okF (a0) (hg : gd a0) : F (ad.r a0) = ret (ad.r (md a0)) := by
 unfold md
 show (call (Z22.R (a0.aL.map aa.row)) fun v1 => (call (Z28.R (aj.r a0.aH)) fun v2 => (call (Z29.R (aB.r a0.cE)) fun v3 => (call (Z30.R (bt.r a0.cL)) fun v4 => ret ((⟨v1, a0.bu, v2, v3, v4⟩ : bd) : bd))))) = _
 rw [ba (Z22.ai hg.1)]
 rw [ba (Z28.ai hg.2.1)]
 rw [ba (Z29.ai hg.2.2.1)]
 rw [ba (Z30.ai hg.2.2.2)]
 rfl
theorem ab : Valid Tryz.prog Ev 76 aK := W1 24 F mix au okF (.cons Z22.ab (.cons Z28.ab (.cons Z29.ab (.cons Z30.ab .nil)))) Tryz.func76
end Z31
namespace Z32
inductive Pt where
 | p0 (a : List (List L)) (b : Int) (c : List (List L))
def pid : Pt → Nat
 | .p0 .. => 3
def bR : Pt → List V
 | .p0 a b c => [.sl none 114 a, .own 0, .int .i64 b]
def bQ : Pt → List aI
 | .p0 a b c => [.row 121 c]
def step (J : Pt → ay) : Pt → ay
 | .p0 a b c => (cond (decide (b < (a.length : Int))) (m2 b (a.length : Int) (call (Z31.R (bd.at a (Int.toNat b))) fun v1 => (m2 b (c.length : Int) (J (.p0 a (i64.wrap (b + 1)) (List.set c (Int.toNat b) (bd.enc v1))))))) (ret (c : List (List L))))
def start (J : Pt → ay) (x0 : List (List L)) : ay := (bJ (decide ((0 : Int) ≤ (x0.length : Int))) (bJ (decide ((x0.length : Int) ≤ (x0.length : Int))) (bJ (decide ((x0.length : Int) * 304 ≤ 140737488355328)) (J (.p0 x0 0 (List.replicate (Int.toNat (x0.length : Int)) [L.sl [], L.bool false, L.str ⟨#[]⟩, L.int 0, L.int 0, L.sl [], L.int 0, L.sl [], L.int 0, L.str ⟨#[]⟩, L.int 0, L.int 0, L.sl [], L.str ⟨#[]⟩, L.int 0, L.int 0, L.sl [], L.int 0, L.sl [], L.int 0, L.sl []]))))))
def live : Nat → Live := fun i => match i with | 3 => [(0, none), (3, none), (4, none)] | _ => []
def md (a0 : List ad) : List ad := a0
def gd (a0 : List ad) : Prop := bw (2 ^ 36) (fun y : ad => ad.Sm (2 ^ 36) y) a0
def R := RR gd md
theorem ai {a0} (h : gd a0) : R (a0.map ad.row) = some (a0.map ad.row) := aE (a := a0) h
def aK := CN [pL 114] (oL 121) RT.dec R
theorem okF (a0) (hg : gd a0) : ∃ n, start (iter step n) (a0.map ad.row) = ret ((md a0).map ad.row) := by
  unfold start md
  simp only [List.length_map]
  refine iX (b := 304) (pt := fun i c => Pt.p0 (a0.map ad.row) (i : Int) c) (by have := hg.1; simp at this; omega) (fun J i h c hc => ?_) (fun J c => ?_)
  · simp only [step, MM, List.length_map, aD h, ax, cond_true, cg, ad.da h, hc]
    rw [ba (Z31.ai (hg.get h))]
    try simp only [hc, aD h, cond_true]
    rw [az (n := a0.length) h (by have := hg.1; simp only [maxLen]; simp at this; omega)]
    rfl
  · simp only [step, List.length_map, dK, cond_false]
theorem ab : Valid Tryz.prog Ev 14 aK := L1 23 pid bR bQ live step start mix au okF (.cons Z31.ab .nil) Tryz.func14
end Z32
namespace Z33
def F (x0 : aO) : ay := (bJ (dU ((x0.aF.length : Int) * 8)) (ret (x0 : aO)))
def md (a0 : aw) : aw := a0
def gd (a0 : aw) : Prop := (aw.Sm (2 ^ 21) a0)
def R := RR gd md
theorem ai {a0} (h : gd a0) : R (aw.r a0) = some (aw.r a0) := aE (a := a0) h
def aK := CN [.agg gz] (.agg f123) RT.dec R
theorem okF (a0) (hg : gd a0) : F (aw.r a0) = ret (aw.r (md a0)) := by
 unfold gd at hg
 have H0 := hg
 unfold F md
 try simp only [SS]
 refine af (have := (H0).1; lm) ?_
 all_goals exact fz
theorem ab : Valid Tryz.prog Ev 184 aK := W1 10 F mix au okF .nil Tryz.func184
end Z33
namespace Z34
def F (x0 : bq) : ay := (call (Z33.R x0.bh) fun v1 => (call (Z33.R x0.aQ) fun v2 => (call (Z33.R x0.aM) fun v3 => ret ((⟨x0.aT, x0.bN, x0.bg, x0.bL, x0.bF, x0.bG, x0.cj, x0.cB, v1, v2, x0.cf, v3, x0.aS⟩ : bq) : bq))))
def md (a0 : aq) : aq := a0
def gd (a0 : aq) : Prop := (aq.Sm (2 ^ 21) a0)
def R := RR gd md
theorem ai {a0} (h : gd a0) : R (aq.r a0) = some (aq.r a0) := aE (a := a0) h
def aK := CN [.agg eA] (.agg f125) RT.dec R
theorem okF (a0) (hg : gd a0) : F (aq.r a0) = ret (aq.r (md a0)) := by
 unfold gd at hg
 have H0 := hg
 unfold F md
 try simp only [SS]
 refine ct (Z33.ai H0.1) ?_
 try simp only [SS]
 refine ct (Z33.ai H0.2.1) ?_
 try simp only [SS]
 refine ct (Z33.ai H0.2.2) ?_
 try simp only [SS]
 all_goals exact fz
theorem ab : Valid Tryz.prog Ev 135 aK := W1 18 F mix au okF (.cons Z33.ab .nil) Tryz.func135
end Z34
namespace Z35
def F (x0 : aC) : ay := (call (Z34.R x0.ae) fun v1 => (bJ (dU ((x0.bC.length : Int) * 16)) (ret ((⟨v1, x0.bC⟩ : aC) : aC))))
def md (a0 : aa) : aa := a0
def gd (a0 : aa) : Prop := (aa.Sm (2 ^ 21) a0)
def R := RR gd md
theorem ai {a0} (h : gd a0) : R (aa.r a0) = some (aa.r a0) := aE (a := a0) h
def aK := CN [.agg iR] (.agg f202) RT.dec R
theorem okF (a0) (hg : gd a0) : F (aa.r a0) = ret (aa.r (md a0)) := by
 unfold gd at hg
 have H0 := hg
 unfold F md
 try simp only [SS]
 refine ct (Z34.ai H0.1) ?_
 try simp only [SS]
 refine af (have := (H0.2).1; lm) ?_
 all_goals exact fz
theorem ab : Valid Tryz.prog Ev 182 aK := W1 11 F mix au okF (.cons Z34.ab .nil) Tryz.func182
end Z35
namespace Z36
inductive Pt where
 | p0 (a : List (List L)) (b : Int) (c : List (List L))
def pid : Pt → Nat
 | .p0 .. => 3
def bR : Pt → List V
 | .p0 a b c => [.sl none 202 a, .own 0, .int .i64 b]
def bQ : Pt → List aI
 | .p0 a b c => [.row 202 c]
def step (J : Pt → ay) : Pt → ay
 | .p0 a b c => (cond (decide (b < (a.length : Int))) (m2 b (a.length : Int) (call (Z35.R (aC.at a (Int.toNat b))) fun v1 => (bJ (dU (((c.length : Int) + 1) * 200)) (J (.p0 a (i64.wrap (b + 1)) (c ++ [(aC.enc v1)])))))) (ret (c : List (List L))))
def start (J : Pt → ay) (x0 : List (List L)) : ay := J (.p0 x0 0 [])
def live : Nat → Live := fun i => match i with | 3 => [(0, none), (3, some 202), (4, none)] | _ => []
def md (a0 : List aa) : List aa := a0
def gd (a0 : List aa) : Prop := (bw (2 ^ 21) (fun y : aa => aa.Sm (2 ^ 21) y) a0)
def R := RR gd md
theorem ai {a0} (h : gd a0) : R (a0.map aa.row) = some (a0.map aa.row) := aE (a := a0) h
def aK := CN [pL 202] (oL 202) RT.dec R
theorem okF (a0) (hg : gd a0) : ∃ n, start (iter step n) (a0.map aa.row) = ret ((md a0).map aa.row) := by
  unfold gd at hg
  have H0 := hg
  unfold start md
  try simp only [SS]
  have Bh2 : a0.length ≤ maxLen := (by
      have := (H0).1
      try simp only [maxLen] at *
      omega)
  refine dV (out := (fun b : List aa => ret ((b.map aa.row) : List (List L)))) (fV (xs := a0) (z := aa.zero) (t := fun s3 : List aa => s3)) ?_
  refine dk (p := Pt.p0 (a0.map aa.row) 0 ([].map aa.row)) fz ?_
  refine bP (pt := fun (i1 : Nat) (s3 : List aa) => Pt.p0 (a0.map aa.row) (i1 : Int) (s3.map aa.row)) (s := ([] : List aa)) (out := (fun b : List aa => ret ((b.map aa.row) : List (List L)))) (fun (i1 : Nat) (s3 : List aa) => s3.length ≤ ([] : List Int).length + 1 * i1) (fun J i1 s3 h2 hih2 => ?_) (fun s3 hih2 => ?_) (by simp)
  · simp only [step, SS]
    have gr_ := hih2
    try simp only [LN] at gr_
    have bb_ := Bh2
    simp only [maxLen] at bb_
    have := (H0).1
    refine aY.yes (by apply decide_eq_true; omega) ?_
    refine aY.yes ax ?_
    refine aY.yes (aD h2) ?_
    refine cr (Z35.ai (bw.getD (z := aa.zero) H0 h2)) ?_
    try simp only [SS]
    refine aY.yes lm ?_
    refine aY.inl (by
        have g_ := hih2
        try simp only [LN] at g_ ⊢
        first | omega | (simp; done) | (simp; omega)) ?_
    rw [az h2 Bh2]
    all_goals exact fz
  · simp only [step, SS]
    have gr_ := hih2
    try simp only [LN] at gr_
    have := (H0).1
    refine dh (by apply decide_eq_false; omega) ?_
    refine ⟨0, ?_⟩
    all_goals exact fz
theorem ab : Valid Tryz.prog Ev 132 aK := L1 21 pid bR bQ live step start mix au okF (.cons Z35.ab .nil) Tryz.func132
end Z36
namespace Z37
def F (x0 : aZ) : ay := (call (Z35.R x0.av) fun v1 => (call (Z35.R x0.fA) fun v2 => (call (Z35.R x0.fB) fun v3 => ret ((⟨v1, v2, v3⟩ : aZ) : aZ))))
def md (a0 : ao) : ao := a0
def gd (a0 : ao) : Prop := (ao.Sm (2 ^ 21) a0)
def R := RR gd md
theorem ai {a0} (h : gd a0) : R (ao.r a0) = some (ao.r a0) := aE (a := a0) h
def aK := CN [.agg pN] (.agg f204) RT.dec R
theorem okF (a0) (hg : gd a0) : F (ao.r a0) = ret (ao.r (md a0)) := by
 unfold gd at hg
 have H0 := hg
 unfold F md
 try simp only [SS]
 refine ct (Z35.ai H0.1) ?_
 try simp only [SS]
 refine ct (Z35.ai H0.2.1) ?_
 try simp only [SS]
 refine ct (Z35.ai H0.2.2) ?_
 try simp only [SS]
 all_goals exact fz
theorem ab : Valid Tryz.prog Ev 133 aK := W1 13 F mix au okF (.cons Z35.ab .nil) Tryz.func133
end Z37
namespace Z38
inductive Pt where
 | p0 (a : Int) (b : aW) (c : List (List L))
 | p1 (a : Int) (b : aW) (c : List (List L)) (d : List (List L))
def pid : Pt → Nat
 | .p0 .. => 3
 | .p1 .. => 7
def bR : Pt → List V
 | .p0 a b c => [.cC 0 0, .cC 1 0, .cC 2 0, .int .i64 a, .cC 2 0]
 | .p1 a b c d => [.cC 0 0, .cC 1 0, .cC 2 0, .int .i64 a, .cC 2 0, .cC 2 0]
def bQ : Pt → List aI
 | .p0 a b c => [.box [.sl none 116 b.aA, .sl none 204 b.aR], .box [.nil, .nil], .box [.own 3, .nil], .row 116 c]
 | .p1 a b c d => [.box [.sl none 116 b.aA, .sl none 204 b.aR], .box [.nil, .nil], .box [.own 3, .own 4], .row 116 c, .row 204 d]
def step (J : Pt → ay) : Pt → ay
 | .p0 a b c => (cond (decide (a < (b.aA.length : Int))) (m2 a (b.aA.length : Int) (call (Z36.R (lA b.aA (Int.toNat a))) fun v1 => (bJ (dU (((c.length : Int) + 1) * 24)) (J (.p0 (i64.wrap (a + 1)) b (c ++ [[L.sl v1]])))))) (J (.p1 0 b c [])))
 | .p1 a b c d => (cond (decide (a < (b.aR.length : Int))) (m2 a (b.aR.length : Int) (call (Z37.R (aZ.at b.aR (Int.toNat a))) fun v1 => (bJ (dU (((d.length : Int) + 1) * 600)) (J (.p1 (i64.wrap (a + 1)) b c (d ++ [(aZ.enc v1)])))))) (ret ((⟨c, d⟩ : aW) : aW)))
def start (J : Pt → ay) (x0 : aW) : ay := J (.p0 0 x0 [])
def live : Nat → Live := fun i => match i with | 3 => [(1, none), (2, none), (3, none), (4, none), (3, some 116)] | 7 => [(1, none), (2, none), (3, none), (5, none), (3, some 116), (3, some 1048780)] | _ => []
def md (a0 : ah) : ah := a0
def gd (a0 : ah) : Prop := (ah.Sm (2 ^ 21) a0)
def R := RR gd md
theorem ai {a0} (h : gd a0) : R (ah.r a0) = some (ah.r a0) := aE (a := a0) h
def aK := CN [.agg rh] (.agg f32) RT.dec R
theorem okF (a0) (hg : gd a0) : ∃ n, start (iter step n) (ah.r a0) = ret (ah.r (md a0)) := by
  unfold gd at hg
  have H0 := hg
  unfold start md
  try simp only [SS]
  have Bh2 : a0.aA.length ≤ maxLen := (by
      have := (H0.1).1
      try simp only [maxLen] at *
      omega)
  refine dV (out := (fun b : ah => ret ((ah.r b) : aW))) (fV (xs := a0.aA) (z := []) (t := fun s3 : List (List aa) => (⟨s3, a0.aR⟩ : ah))) ?_
  refine dk (p := Pt.p0 0 (ah.r a0) ([].map (cM aa.row))) fz ?_
  refine bP (pt := fun (i1 : Nat) (s3 : List (List aa)) => Pt.p0 (i1 : Int) (ah.r a0) (s3.map (cM aa.row))) (s := ([] : List (List aa))) (out := (fun b : ah => ret ((ah.r b) : aW))) (fun (i1 : Nat) (s3 : List (List aa)) => s3.length ≤ ([] : List Int).length + 1 * i1) (fun J i1 s3 h2 hih2 => ?_) (fun s3 hih2 => ?_) (by simp)
  · simp only [step, SS]
    have gr_ := hih2
    try simp only [LN] at gr_
    have bb_ := Bh2
    simp only [maxLen] at bb_
    have := (H0.1).1
    refine aY.yes (by apply decide_eq_true; omega) ?_
    refine aY.yes ax ?_
    refine aY.yes (aD h2) ?_
    refine cr (Z36.ai (bw.getD (z := []) H0.1 h2)) ?_
    try simp only [SS]
    refine aY.yes lm ?_
    refine aY.inl (by
        have g_ := hih2
        try simp only [LN] at g_ ⊢
        first | omega | (simp; done) | (simp; omega)) ?_
    rw [az h2 Bh2]
    all_goals exact fz
  · simp only [step, SS]
    have gr_ := hih2
    try simp only [LN] at gr_
    have := (H0.1).1
    refine dh (by apply decide_eq_false; omega) ?_
    have Bh5 : a0.aR.length ≤ maxLen := (by
        have := (H0.2).1
        try simp only [maxLen] at *
        omega)
    refine dV (out := (fun b : ah => ret ((ah.r b) : aW))) (fV (xs := a0.aR) (z := ao.zero) (t := fun s6 : List ao => (⟨s3, s6⟩ : ah))) ?_
    refine dk (p := Pt.p1 0 (ah.r a0) (s3.map (cM aa.row)) ([].map ao.row)) fz ?_
    refine bP (pt := fun (i4 : Nat) (s6 : List ao) => Pt.p1 (i4 : Int) (ah.r a0) (s3.map (cM aa.row)) (s6.map ao.row)) (s := ([] : List ao)) (out := (fun b : ah => ret ((ah.r b) : aW))) (fun (i4 : Nat) (s6 : List ao) => s6.length ≤ ([] : List Int).length + 1 * i4) (fun J i4 s6 h5 hih5 => ?_) (fun s6 hih5 => ?_) (by simp)
    · simp only [step, SS]
      have gr_ := hih5
      try simp only [LN] at gr_
      have bb_ := Bh5
      simp only [maxLen] at bb_
      have := (H0.2).1
      refine aY.yes (by apply decide_eq_true; omega) ?_
      refine aY.yes ax ?_
      refine aY.yes (aD h5) ?_
      refine cr (Z37.ai (bw.getD (z := ao.zero) H0.2 h5)) ?_
      try simp only [SS]
      refine aY.yes lm ?_
      refine aY.inl (by
          have g_ := hih5
          try simp only [LN] at g_ ⊢
          first | omega | (simp; done) | (simp; omega)) ?_
      rw [az h5 Bh5]
      all_goals exact fz
    · simp only [step, SS]
      have gr_ := hih5
      try simp only [LN] at gr_
      have := (H0.2).1
      refine dh (by apply decide_eq_false; omega) ?_
      refine ⟨0, ?_⟩
      all_goals exact fz
theorem ab : Valid Tryz.prog Ev 68 aK := L1 44 pid bR bQ live step start mix au okF (.cons Z36.ab (.cons Z37.ab .nil)) Tryz.func68
end Z38
namespace Z39
def F (x0 : Int) (x1 : Int) (x2 : Int) : ay := (cond (decide (x0 ≥ x1)) (ret ((decide (x0 ≤ x2)) : Bool)) (ret (false : Bool)))
def md (a0 : Int) (a1 : Int) (a2 : Int) : Bool := (cond (decide (a0 ≥ a1)) ((decide (a0 ≤ a2)) : Bool) (false : Bool))
def gd (a0 : Int) (a1 : Int) (a2 : Int) : Prop := True
def R := RR (p3 gd) (u3 md)
theorem ai {a0 a1 a2} (h : gd a0 a1 a2) : R (a0, a1, a2) = some (md a0 a1 a2) := aE (a := (a0, a1, a2)) h
def aK := CN [pI, pI, pI] oB RT.dec R
theorem okF (a0) (a1) (a2) (hg : gd a0 a1 a2) : F a0 a1 a2 = ret (md a0 a1 a2) := by
 unfold F md
 try simp only [SS]
 refine ak ret (fun c1 => ?_) (fun _ => rfl)
 all_goals exact fz
theorem ab : Valid Tryz.prog Ev 156 aK := W3 15 F mix au okF .nil Tryz.func156
end Z39
namespace Z40
inductive Pt where
 | p0 (a : Int) (b : aO)
def pid : Pt → Nat
 | .p0 .. => 2
def bR : Pt → List V
 | .p0 a b => [.cC 0 0, .int .i64 a]
def bQ : Pt → List aI
 | .p0 a b => [.box [.sl none 3 b.aF, .int .i64 b.bH]]
def step (J : Pt → ay) : Pt → ay
 | .p0 a b => (cond (decide (a < (b.aF.length : Int))) (m2 a (b.aF.length : Int) (call (Z39.R ((iu b.aF (Int.toNat a)), 1, 99)) fun v1 => (cond (!v1) (ret (false : Bool)) (cond (decide (a > 0)) (bJ (decide ((0 : Int) ≤ (i64.wrap (a - 1)))) (bJ (decide ((i64.wrap (a - 1)) < (b.aF.length : Int))) (m2 a (b.aF.length : Int) (cond (decide ((iu b.aF (Int.toNat (i64.wrap (a - 1)))) ≥ (iu b.aF (Int.toNat a)))) (ret (false : Bool)) (J (.p0 (i64.wrap (a + 1)) b)))))) (J (.p0 (i64.wrap (a + 1)) b)))))) (call (Z39.R ((b.aF.length : Int), 1, 4)) fun v2 => (cond v2 (call (Z39.R (b.bH, 1, (b.aF.length : Int))) fun v3 => ret (v3 : Bool)) (ret (false : Bool)))))
def start (J : Pt → ay) (x0 : aO) : ay := J (.p0 0 x0)
def live : Nat → Live := fun i => match i with | 2 => [(1, none), (3, none)] | _ => []
def md (a0 : aw) : Bool := (dy (S := Unit) (β := Bool) (fun (i1 : Nat) (y1 : Int) (s3 : Unit) => (cond (!(Z39.md y1 1 99)) (.inr (false : Bool)) (cond (decide ((i1 : Int) > 0)) (cond (decide ((a0.aF.getD (Int.toNat (i64.wrap ((i1 : Int) - 1))) 0) ≥ y1)) (.inr (false : Bool)) (.inl ())) (.inl ())))) (fun (s3 : Unit) => (cond (Z39.md (a0.aF.length : Int) 1 4) ((Z39.md a0.bH 1 (a0.aF.length : Int)) : Bool) (false : Bool))) 0 a0.aF ())
def gd (a0 : aw) : Prop := (aw.Sm (2 ^ 21) a0)
def R := RR gd md
theorem ai {a0} (h : gd a0) : R (aw.r a0) = some (md a0) := aE (a := a0) h
def aK := CN [.agg gz] oB RT.dec R
theorem okF (a0) (hg : gd a0) : ∃ n, start (iter step n) (aw.r a0) = ret (md a0) := by
  unfold gd at hg
  have H0 := hg
  unfold start md
  try simp only [SS]
  have Bh2 : a0.aF.length ≤ maxLen := (by
      have := (H0).1
      try simp only [maxLen] at *
      omega)
  refine dV (out := ret) (cV (z := 0)) ?_
  refine dk (p := Pt.p0 0 (aw.r a0)) fz ?_
  refine bP (pt := fun (i1 : Nat) (s3 : Unit) => Pt.p0 (i1 : Int) (aw.r a0)) (s := (() : Unit)) (out := ret) (fun _ _ => True) (fun J i1 s3 h2 hih2 => ?_) (fun s3 hih2 => ?_) trivial
  · simp only [step, SS]
    have bb_ := Bh2
    simp only [maxLen] at bb_
    have := (H0).1
    refine aY.yes (by apply decide_eq_true; omega) ?_
    refine aY.yes ax ?_
    refine aY.yes (aD h2) ?_
    refine cr (Z39.ai trivial) ?_
    refine aY.bif (fun _ => aY.inr rfl) (fun c4 => ?_)
    have dc4 := c4
    try simp only [DC] at dc4
    have Dc4 := c4
    try simp [Z39.md] at Dc4
    refine aY.bif (fun c5 => ?_) (fun c5 => ?_)
    · have dc5 := c5
      try simp only [DC] at dc5
      refine aY.yes dt ?_
      refine aY.yes (have := (H0).1; dt) ?_
      refine aY.yes ax ?_
      refine aY.yes (aD h2) ?_
      refine aY.bif (fun _ => aY.inr rfl) (fun c6 => ?_)
      refine aY.inl trivial ?_
      rw [az h2 Bh2]
      all_goals exact fz
    · refine aY.inl trivial ?_
      rw [az h2 Bh2]
      all_goals exact fz
  · simp only [step, SS]
    have := (H0).1
    refine dh (by apply decide_eq_false; omega) ?_
    refine cx (Z39.ai trivial) ?_
    refine fw ret (fun c7 => ?_) (fun _ => ⟨0, rfl⟩)
    refine cx (Z39.ai trivial) ?_
    refine ⟨0, ?_⟩
    all_goals exact fz
theorem ab : Valid Tryz.prog Ev 318 aK := L1 48 pid bR bQ live step start mix au okF (.cons Z39.ab .nil) Tryz.func318
theorem tr {a0 : aw} (h : md a0 = true) : 1 ≤ a0.aF.length ∧ a0.aF.length ≤ 4 := by
 refine Classical.byContradiction fun hc => ?_
 have e1 : Z39.md (a0.aF.length : Int) 1 4 = false := by simp [Z39.md]; omega
 unfold md at h
 rw [e1] at h
 have e2 : ∀ s : Unit, (cond false (Z39.md a0.bH 1 (a0.aF.length : Int)) false) = false := fun _ => rfl
 have h3 := jF (c := false) (f := fun (i1 : Nat) (y1 : Int) (s3 : Unit) => (cond (!(Z39.md y1 1 99)) (.inr (false : Bool)) (cond (decide ((i1 : Int) > 0)) (cond (decide ((a0.aF.getD (Int.toNat (i64.wrap ((i1 : Int) - 1))) 0) ≥ y1)) (.inr (false : Bool)) (.inl ())) (.inl ())))) (by
  intro i x s b h
  revert h
  simp only [Bool.cond_eq_ite]
  repeat' split
  all_goals (intro h; first | (cases h; rfl) | cases h)) a0.aF 0 ()
 simp only [cond_false] at h
 rw [h3] at h
 cases h
end Z40
namespace Z41
def F (x0 : aO) : ay := (cond (x0.bH == 0) (ret (((x0.aF.length : Int) == 0) : Bool)) (ret (false : Bool)))
def md (a0 : aw) : Bool := (cond (a0.bH == 0) (((a0.aF.length : Int) == 0) : Bool) (false : Bool))
def gd (a0 : aw) : Prop := True
def R := RR gd md
theorem ai {a0} (h : gd a0) : R (aw.r a0) = some (md a0) := aE (a := a0) h
def aK := CN [.agg gz] oB RT.dec R
theorem okF (a0) (hg : gd a0) : F (aw.r a0) = ret (md a0) := by
 unfold F md
 try simp only [SS]
 refine ak ret (fun c1 => ?_) (fun _ => rfl)
 all_goals exact fz
theorem ab : Valid Tryz.prog Ev 319 aK := W1 12 F mix au okF .nil Tryz.func319
end Z41
namespace Z42
def F (x0 : bq) : ay := (call (Z39.R (x0.aT, 0, 2147483646)) fun v1 => (cond (!v1) (ret (false : Bool)) (call (Z39.R (x0.cj, 0, 2147483646)) fun v2 => (cond (!v2) (ret (false : Bool)) (call (Z39.R (x0.cB, 0, 2147483646)) fun v3 => (cond (!v3) (ret (false : Bool)) (call (Z39.R (x0.bN, 0, 200)) fun v4 => (cond (!v4) (ret (false : Bool)) (call (Z39.R (x0.bg, 1, 3)) fun v5 => (cond (!v5) (ret (false : Bool)) (call (Z39.R (x0.bL, 0, 100000)) fun v6 => (cond (!v6) (ret (false : Bool)) (call (Z39.R (x0.bF, x0.bL, 100000)) fun v7 => (cond (!v7) (ret (false : Bool)) (cond (decide ((i64.wrap (x0.bF - x0.bL)) > 200)) (ret (false : Bool)) (call (Z39.R (x0.bG, 0, 12)) fun v8 => (cond (!v8) (ret (false : Bool)) (call (Z40.R x0.bh) fun v9 => (cond (!v9) (ret (false : Bool)) (call (Z41.R x0.aQ) fun v10 => (cond v10 (cond (x0.cf != 0) (ret (false : Bool)) (call (Z40.R x0.aM) fun v11 => (cond v11 (ret (true : Bool)) (call (Z41.R x0.aM) fun v12 => (cond v12 (ret ((!x0.aS) : Bool)) (ret (false : Bool))))))) (call (Z40.R x0.aQ) fun v13 => (cond (!v13) (ret (false : Bool)) (call (Z39.R (x0.cf, 1, 500)) fun v14 => (cond (!v14) (ret (false : Bool)) (call (Z40.R x0.aM) fun v15 => (cond v15 (ret (true : Bool)) (call (Z41.R x0.aM) fun v16 => (cond v16 (ret ((!x0.aS) : Bool)) (ret (false : Bool)))))))))))))))))))))))))))))))
def md (a0 : aq) : Bool := (cond (!(Z39.md a0.aT 0 2147483646)) (false : Bool) (cond (!(Z39.md a0.cj 0 2147483646)) (false : Bool) (cond (!(Z39.md a0.cB 0 2147483646)) (false : Bool) (cond (!(Z39.md a0.bN 0 200)) (false : Bool) (cond (!(Z39.md a0.bg 1 3)) (false : Bool) (cond (!(Z39.md a0.bL 0 100000)) (false : Bool) (cond (!(Z39.md a0.bF a0.bL 100000)) (false : Bool) (cond (decide ((i64.wrap (a0.bF - a0.bL)) > 200)) (false : Bool) (cond (!(Z39.md a0.bG 0 12)) (false : Bool) (cond (!(Z40.md a0.bh)) (false : Bool) (cond (Z41.md a0.aQ) (cond (a0.cf != 0) (false : Bool) (cond (Z40.md a0.aM) (true : Bool) (cond (Z41.md a0.aM) ((!a0.aS) : Bool) (false : Bool)))) (cond (!(Z40.md a0.aQ)) (false : Bool) (cond (!(Z39.md a0.cf 1 500)) (false : Bool) (cond (Z40.md a0.aM) (true : Bool) (cond (Z41.md a0.aM) ((!a0.aS) : Bool) (false : Bool))))))))))))))))
def gd (a0 : aq) : Prop := (aq.Sm (2 ^ 21) a0)
def R := RR gd md
theorem ai {a0} (h : gd a0) : R (aq.r a0) = some (md a0) := aE (a := a0) h
def aK := CN [.agg eA] oB RT.dec R
theorem okF (a0) (hg : gd a0) : F (aq.r a0) = ret (md a0) := by
  unfold gd at hg
  have H0 := hg
  unfold F md
  try simp only [SS]
  refine ct (Z39.ai trivial) ?_
  refine ak ret (fun _ => rfl) (fun c1 => ?_)
  refine ct (Z39.ai trivial) ?_
  refine ak ret (fun _ => rfl) (fun c2 => ?_)
  refine ct (Z39.ai trivial) ?_
  refine ak ret (fun _ => rfl) (fun c3 => ?_)
  refine ct (Z39.ai trivial) ?_
  refine ak ret (fun _ => rfl) (fun c4 => ?_)
  refine ct (Z39.ai trivial) ?_
  refine ak ret (fun _ => rfl) (fun c5 => ?_)
  refine ct (Z39.ai trivial) ?_
  refine ak ret (fun _ => rfl) (fun c6 => ?_)
  refine ct (Z39.ai trivial) ?_
  refine ak ret (fun _ => rfl) (fun c7 => ?_)
  refine ak ret (fun _ => rfl) (fun c8 => ?_)
  refine ct (Z39.ai trivial) ?_
  refine ak ret (fun _ => rfl) (fun c9 => ?_)
  refine ct (Z40.ai H0.1) ?_
  refine ak ret (fun _ => rfl) (fun c10 => ?_)
  refine ct (Z41.ai trivial) ?_
  refine ak ret (fun c11 => ?_) (fun c11 => ?_)
  · refine ak ret (fun _ => rfl) (fun c12 => ?_)
    refine ct (Z40.ai H0.2.2) ?_
    refine ak ret (fun _ => rfl) (fun c13 => ?_)
    refine ct (Z41.ai trivial) ?_
    refine ak ret (fun c14 => ?_) (fun _ => rfl)
    all_goals exact fz
  · refine ct (Z40.ai H0.2.1) ?_
    refine ak ret (fun _ => rfl) (fun c15 => ?_)
    refine ct (Z39.ai trivial) ?_
    refine ak ret (fun _ => rfl) (fun c16 => ?_)
    refine ct (Z40.ai H0.2.2) ?_
    refine ak ret (fun _ => rfl) (fun c17 => ?_)
    refine ct (Z41.ai trivial) ?_
    refine ak ret (fun c18 => ?_) (fun _ => rfl)
    all_goals exact fz
theorem ab : Valid Tryz.prog Ev 274 aK := W1 92 F mix au okF (.cons Z39.ab (.cons Z40.ab (.cons Z41.ab .nil))) Tryz.func274
theorem tr {a0 : aq} (h : md a0 = true) : (1 ≤ a0.bg ∧ a0.bg ≤ 3) ∧ 0 ≤ a0.bL ∧ a0.bL ≤ a0.bF ∧ a0.bF ≤ 100000 ∧ 0 ≤ a0.bG ∧ a0.bG ≤ 12 := by
 have key : ∀ x y z : Int, Z39.md x y z = true → y ≤ x ∧ x ≤ z := fun x y z h => by simpa [Z39.md] using h
 unfold md at h
 simp only [wQ, Bool.not_not, Bool.and_eq_true] at h
 obtain ⟨_, _, _, _, h5, h6, h7, _, h8, _⟩ := h
 have := key _ _ _ h5
 have := key _ _ _ h6
 have := key _ _ _ h7
 have := key _ _ _ h8
 omega
end Z42
namespace Z43
def F (x0 : aO) : ay := (bJ (dU (((2 : Int) + (x0.aF.length : Int)) * 8)) (ret (([[L.int x0.bH], [L.int (x0.aF.length : Int)]] ++ x0.aF) : List (List L))))
def md (a0 : aw) : List Int := ([a0.bH, (a0.aF.length : Int)] ++ a0.aF)
def gd (a0 : aw) : Prop := (aw.Sm (2 ^ 21) a0)
def R := RR gd md
theorem ai {a0} (h : gd a0) : R (aw.r a0) = some ((md a0).map aP) := aE (a := a0) h
def aK := CN [.agg gz] (oL 3) RT.dec R
theorem okF (a0) (hg : gd a0) : F (aw.r a0) = ret ((md a0).map aP) := by
 unfold gd at hg
 have H0 := hg
 unfold F md
 try simp only [SS]
 refine af (have := (H0).1; lm) ?_
 all_goals exact fz
theorem ab : Valid Tryz.prog Ev 278 aK := W1 12 F mix au okF .nil Tryz.func278
theorem len (a0 : aw) : (md a0).length = 2 + a0.aF.length := by simp [md]; omega
end Z43
namespace Z44
def F (x0 : Int) (x1 : Int) : ay := (call (Z39.R (x1, 1, 1000000000000)) fun v1 => (cond (!v1) (ret (0 : Int)) (cond (decide (x1 = 0)) none (cond (decide (x1 = 0)) none (ret ((Int.tmod (i64.wrap ((Int.tmod x0 x1) + x1)) x1) : Int))))))
def md (a0 : Int) (a1 : Int) : Int := (cond (!(Z39.md a1 1 1000000000000)) (0 : Int) ((Int.tmod (i64.wrap ((Int.tmod a0 a1) + a1)) a1) : Int))
def gd (a0 : Int) (a1 : Int) : Prop := True
def R := RR (p2 gd) (u2 md)
theorem ai {a0 a1} (h : gd a0 a1) : R (a0, a1) = some (md a0 a1) := aE (a := (a0, a1)) h
def aK := CN [pI, pI] oI RT.dec R
theorem okF (a0) (a1) (hg : gd a0 a1) : F a0 a1 = ret (md a0 a1) := by
 unfold F md
 try simp only [SS]
 refine ct (Z39.ai trivial) ?_
 refine ak ret (fun _ => rfl) (fun c1 => ?_)
 have dc1 := c1
 try simp only [DC] at dc1
 have Dc1 := c1
 try simp [Z39.md] at Dc1
 refine bZ df ?_
 refine bZ df ?_
 all_goals exact fz
theorem ab : Valid Tryz.prog Ev 325 aK := W2 15 F mix au okF (.cons Z39.ab .nil) Tryz.func325
end Z44
namespace Z45
inductive Pt where
 | p0 (a : List (List L)) (b : Int) (c : Int)
def pid : Pt → Nat
 | .p0 .. => 3
def bR : Pt → List V
 | .p0 a b c => [.sl none 3 a, .int .i64 b, .int .i64 c]
def bQ : Pt → List aI
 | .p0 a b c => []
def step (J : Pt → ay) : Pt → ay
 | .p0 a b c => (cond (decide (c < (a.length : Int))) (m2 c (a.length : Int) (call (Z44.R ((iu a (Int.toNat c)), 2147483647)) fun v1 => J (.p0 a (Int.tmod (i64.wrap ((i64.wrap ((i64.wrap (b * 1000003)) + v1)) + 13)) 2147483647) (i64.wrap (c + 1))))) (ret (b : Int)))
def start (J : Pt → ay) (x0 : List (List L)) : ay := J (.p0 x0 11 0)
def live : Nat → Live := fun i => match i with | 3 => [(0, none), (3, none), (4, none)] | _ => []
def md (a0 : List Int) : Int := (dG (S := Int) (β := Int) (fun (y1 : Int) (s3 : Int) => (.inl (Int.tmod (i64.wrap ((i64.wrap ((i64.wrap (s3 * 1000003)) + (Z44.md y1 2147483647))) + 13)) 2147483647))) (fun (s3 : Int) => (s3 : Int)) a0 11)
def gd (a0 : List Int) : Prop := (bw (2 ^ 43) (fun y : Int => True) a0)
def R := RR gd md
theorem ai {a0} (h : gd a0) : R (a0.map aP) = some (md a0) := aE (a := a0) h
def aK := CN [pL 3] oI RT.dec R
theorem okF (a0) (hg : gd a0) : ∃ n, start (iter step n) (a0.map aP) = ret (md a0) := by
  unfold gd at hg
  have H0 := hg
  unfold start md
  try simp only [SS]
  have Bh2 : a0.length ≤ maxLen := (by
      have := (H0).1
      try simp only [maxLen] at *
      omega)
  refine dV (out := ret) (dO (z := 0)) ?_
  refine dk (p := Pt.p0 (a0.map aP) 11 0) fz ?_
  refine bP (pt := fun (i1 : Nat) (s3 : Int) => Pt.p0 (a0.map aP) s3 (i1 : Int)) (s := (11 : Int)) (out := ret) (fun _ _ => True) (fun J i1 s3 h2 hih2 => ?_) (fun s3 hih2 => ?_) trivial
  · simp only [step, SS]
    have bb_ := Bh2
    simp only [maxLen] at bb_
    have := (H0).1
    refine aY.yes (by apply decide_eq_true; omega) ?_
    refine aY.yes ax ?_
    refine aY.yes (aD h2) ?_
    refine cr (Z44.ai trivial) ?_
    refine aY.inl trivial ?_
    rw [az h2 Bh2]
    all_goals exact fz
  · simp only [step, SS]
    have := (H0).1
    refine dh (by apply decide_eq_false; omega) ?_
    refine ⟨0, ?_⟩
    all_goals exact fz
theorem ab : Valid Tryz.prog Ev 280 aK := L1 22 pid bR bQ live step start mix au okF (.cons Z44.ab .nil) Tryz.func280
end Z45
namespace Z46
def F (x0 : aO) (x1 : Int) : ay := (call (Z43.R x0) fun v1 => (bJ (dU (((2 : Int) + (v1.length : Int)) * 8)) (call (Z45.R ([[L.int 239], [L.int x1]] ++ v1)) fun v2 => ret (v2 : Int))))
def md (a0 : aw) (a1 : Int) : Int := ((Z45.md ([239, a1] ++ (Z43.md a0))) : Int)
def gd (a0 : aw) (a1 : Int) : Prop := (aw.Sm (2 ^ 21) a0)
def R := RR (p2 gd) (u2 md)
theorem ai {a0 a1} (h : gd a0 a1) : R ((aw.r a0), a1) = some (md a0 a1) := aE (a := (a0, a1)) h
def aK := CN [.agg gz, pI] oI RT.dec R
theorem okF (a0) (a1) (hg : gd a0 a1) : F (aw.r a0) a1 = ret (md a0 a1) := by
 unfold gd at hg
 have H0 := hg
 unfold F md
 try simp only [SS]
 refine ct (Z43.ai H0) ?_
 try simp only [SS]
 refine af (have := Z43.len a0; have := (H0).1; lm) ?_
 refine aN (Z45.md ([239, a1] ++ (Z43.md a0))) (rq (Z45.ai (a0 := ([239, a1] ++ (Z43.md a0))) ⟨(have := Z43.len a0; have := (H0).1; om), fun _ _ => trivial⟩)) ?_
 all_goals exact fz
theorem ab : Valid Tryz.prog Ev 275 aK := W2 11 F mix au okF (.cons Z43.ab (.cons Z45.ab .nil)) Tryz.func275
end Z46
namespace Z47
def F (x0 : bq) : ay := (call (Z43.R x0.bh) fun v1 => (bJ (dU (((8 : Int) + (v1.length : Int)) * 8)) (call (Z43.R x0.aQ) fun v2 => (bJ (dU (((([[L.int x0.aT], [L.int x0.bN], [L.int x0.bg], [L.int x0.bL], [L.int x0.bF], [L.int x0.bG], [L.int x0.cj], [L.int x0.cB]] ++ v1).length : Int) + (v2.length : Int)) * 8)) (bJ (dU ((((([[L.int x0.aT], [L.int x0.bN], [L.int x0.bg], [L.int x0.bL], [L.int x0.bF], [L.int x0.bG], [L.int x0.cj], [L.int x0.cB]] ++ v1) ++ v2).length : Int) + 1) * 8)) (call (Z43.R x0.aM) fun v3 => (bJ (dU (((((([[L.int x0.aT], [L.int x0.bN], [L.int x0.bg], [L.int x0.bL], [L.int x0.bF], [L.int x0.bG], [L.int x0.cj], [L.int x0.cB]] ++ v1) ++ v2) ++ [[L.int x0.cf]]).length : Int) + (v3.length : Int)) * 8)) (cond x0.aS (bJ (dU ((((((([[L.int x0.aT], [L.int x0.bN], [L.int x0.bg], [L.int x0.bL], [L.int x0.bF], [L.int x0.bG], [L.int x0.cj], [L.int x0.cB]] ++ v1) ++ v2) ++ [[L.int x0.cf]]) ++ v3).length : Int) + 1) * 8)) (ret (((((([[L.int x0.aT], [L.int x0.bN], [L.int x0.bg], [L.int x0.bL], [L.int x0.bF], [L.int x0.bG], [L.int x0.cj], [L.int x0.cB]] ++ v1) ++ v2) ++ [[L.int x0.cf]]) ++ v3) ++ [[L.int 1]]) : List (List L)))) (bJ (dU ((((((([[L.int x0.aT], [L.int x0.bN], [L.int x0.bg], [L.int x0.bL], [L.int x0.bF], [L.int x0.bG], [L.int x0.cj], [L.int x0.cB]] ++ v1) ++ v2) ++ [[L.int x0.cf]]) ++ v3).length : Int) + 1) * 8)) (ret (((((([[L.int x0.aT], [L.int x0.bN], [L.int x0.bg], [L.int x0.bL], [L.int x0.bF], [L.int x0.bG], [L.int x0.cj], [L.int x0.cB]] ++ v1) ++ v2) ++ [[L.int x0.cf]]) ++ v3) ++ [[L.int 0]]) : List (List L))))))))))))
def md (a0 : aq) : List Int := (cond a0.aS ((((([a0.aT, a0.bN, a0.bg, a0.bL, a0.bF, a0.bG, a0.cj, a0.cB] ++ (Z43.md a0.bh)) ++ (Z43.md a0.aQ)) ++ [a0.cf]) ++ (Z43.md a0.aM)) ++ [1]) ((((([a0.aT, a0.bN, a0.bg, a0.bL, a0.bF, a0.bG, a0.cj, a0.cB] ++ (Z43.md a0.bh)) ++ (Z43.md a0.aQ)) ++ [a0.cf]) ++ (Z43.md a0.aM)) ++ [0]))
def gd (a0 : aq) : Prop := (aq.Sm (2 ^ 21) a0)
def R := RR gd md
theorem ai {a0} (h : gd a0) : R (aq.r a0) = some ((md a0).map aP) := aE (a := a0) h
def aK := CN [.agg eA] (oL 3) RT.dec R
theorem okF (a0) (hg : gd a0) : F (aq.r a0) = ret ((md a0).map aP) := by
  unfold gd at hg
  have H0 := hg
  unfold F md
  try simp only [SS]
  refine ct (Z43.ai H0.1) ?_
  try simp only [SS]
  refine af (have := Z43.len a0.bh; have := (H0.1).1; lm) ?_
  refine ct (Z43.ai H0.2.1) ?_
  try simp only [SS]
  refine af (have := Z43.len a0.bh; have := (H0.1).1; have := Z43.len a0.aQ; have := (H0.2.1).1; lm) ?_
  refine af (have := Z43.len a0.bh; have := (H0.1).1; have := Z43.len a0.aQ; have := (H0.2.1).1; lm) ?_
  refine ct (Z43.ai H0.2.2) ?_
  try simp only [SS]
  refine af (have := Z43.len a0.bh; have := (H0.1).1; have := Z43.len a0.aQ; have := (H0.2.1).1; have := Z43.len a0.aM; have := (H0.2.2).1; lm) ?_
  refine ak (fun b : List Int => ret ((b.map aP) : List (List L))) (fun c1 => ?_) (fun c1 => ?_)
  · refine af (have := Z43.len a0.bh; have := (H0.1).1; have := Z43.len a0.aQ; have := (H0.2.1).1; have := Z43.len a0.aM; have := (H0.2.2).1; lm) ?_
    all_goals exact fz
  · refine af (have := Z43.len a0.bh; have := (H0.1).1; have := Z43.len a0.aQ; have := (H0.2.1).1; have := Z43.len a0.aM; have := (H0.2.2).1; lm) ?_
    all_goals exact fz
theorem ab : Valid Tryz.prog Ev 227 aK := W1 49 F mix au okF (.cons Z43.ab .nil) Tryz.func227
theorem len (a0 : aq) : (md a0).length = 16 + a0.bh.aF.length + a0.aQ.aF.length + a0.aM.aF.length := by unfold md; cases a0.aS <;> simp [Z43.md] <;> omega
theorem vZ {k l : aw} {x y : List Int} (h : Z43.md k ++ x = Z43.md l ++ y) : k = l ∧ x = y := by
 obtain ⟨kl, kn⟩ := k
 obtain ⟨ll, ln⟩ := l
 simp only [Z43.md, List.cons_append, List.nil_append, List.cons.injEq] at h
 obtain ⟨h1, h2, h3⟩ := h
 obtain ⟨h4, h5⟩ := List.append_inj h3 (by omega)
 exact ⟨by rw [h1, h4], h5⟩
theorem pF (a : aq) : md a = a.aT :: a.bN :: a.bg :: a.bL :: a.bF :: a.bG :: a.cj :: a.cB :: (Z43.md a.bh ++ (Z43.md a.aQ ++ (a.cf :: (Z43.md a.aM ++ [bif a.aS then 1 else 0])))) := by
 unfold md
 cases a.aS <;> simp only [cond_true, cond_false, List.append_assoc, List.cons_append, List.nil_append]
theorem inj {a b : aq} (h : md a = md b) : a = b := by
 rw [pF, pF] at h
 simp only [List.cons.injEq] at h
 obtain ⟨g1, g2, g3, g4, g5, g6, g7, g8, g9⟩ := h
 obtain ⟨k1, g9⟩ := vZ g9
 obtain ⟨k2, g9⟩ := vZ g9
 simp only [List.cons.injEq] at g9
 obtain ⟨k3, g9⟩ := g9
 obtain ⟨k4, g9⟩ := vZ g9
 have k5 : a.aS = b.aS := by
  simp only [List.cons.injEq, and_true] at g9
  revert g9
  cases a.aS <;> cases b.aS <;> simp
 cases a; cases b
 simp only [aq.mk.injEq]
 exact ⟨g1, g2, g3, g4, g5, g6, g7, g8, k1, k2, k3, k4, k5⟩
end Z47
namespace Z48
def F (x0 : Int) (x1 : List (List L)) : ay := (bJ (dU (((1 : Int) + (x1.length : Int)) * 8)) (bJ (dU (((([[L.int x0]] ++ x1).length : Int) + 1) * 8)) (call (Z45.R (([[L.int x0]] ++ x1) ++ [[L.int x0]])) fun v1 => ret (v1 : Int))))
def md (a0 : Int) (a1 : List Int) : Int := ((Z45.md (([a0] ++ a1) ++ [a0])) : Int)
def gd (a0 : Int) (a1 : List Int) : Prop := (bw (2 ^ 40) (fun y : Int => True) a1)
def R := RR (p2 gd) (u2 md)
theorem ai {a0 a1} (h : gd a0 a1) : R (a0, (a1.map aP)) = some (md a0 a1) := aE (a := (a0, a1)) h
def aK := CN [pI, pL 3] oI RT.dec R
theorem okF (a0) (a1) (hg : gd a0 a1) : F a0 (a1.map aP) = ret (md a0 a1) := by
 unfold gd at hg
 have H1 := hg
 unfold F md
 try simp only [SS]
 refine af (have := (H1).1; lm) ?_
 refine af (have := (H1).1; lm) ?_
 refine aN (Z45.md (([a0] ++ a1) ++ [a0])) (rq (Z45.ai (a0 := (([a0] ++ a1) ++ [a0])) ⟨(have := (H1).1; om), fun _ _ => trivial⟩)) ?_
 all_goals exact fz
theorem ab : Valid Tryz.prog Ev 375 aK := W2 13 F mix au okF (.cons Z45.ab .nil) Tryz.func375
end Z48
namespace Z49
def F (x0 : Int) (x1 : List (List L)) : ay := (bJ (dU (((1 : Int) + (x1.length : Int)) * 8)) (call (Z48.R (x0, ([[L.int 223]] ++ x1))) fun v1 => ret (v1 : Int)))
def md (a0 : Int) (a1 : List Int) : Int := ((Z48.md a0 ([223] ++ a1)) : Int)
def gd (a0 : Int) (a1 : List Int) : Prop := (bw (2 ^ 39) (fun y : Int => True) a1)
def R := RR (p2 gd) (u2 md)
theorem ai {a0 a1} (h : gd a0 a1) : R (a0, (a1.map aP)) = some (md a0 a1) := aE (a := (a0, a1)) h
def aK := CN [pI, pL 3] oI RT.dec R
theorem okF (a0) (a1) (hg : gd a0 a1) : F a0 (a1.map aP) = ret (md a0 a1) := by
 unfold gd at hg
 have H1 := hg
 unfold F md
 try simp only [SS]
 refine af (have := (H1).1; lm) ?_
 refine aN (Z48.md a0 ([223] ++ a1)) (rq (Z48.ai (a0 := a0) (a1 := ([223] ++ a1)) ⟨(have := (H1).1; om), fun _ _ => trivial⟩)) ?_
 all_goals exact fz
theorem ab : Valid Tryz.prog Ev 366 aK := W2 10 F mix au okF (.cons Z48.ab .nil) Tryz.func366
end Z49
namespace Z50
def F (x0 : aJ) (x1 : List (List L)) : ay := (call (Z39.R (x0.fq, 1, 99)) fun v1 => (cond v1 (call (Z49.R (x0.fq, x1)) fun v2 => ret ((x0.gN == v2) : Bool)) (ret (false : Bool))))
def md (a0 : aJ) (a1 : List Int) : Bool := (cond (Z39.md a0.fq 1 99) ((a0.gN == (Z49.md a0.fq a1)) : Bool) (false : Bool))
def gd (a0 : aJ) (a1 : List Int) : Prop := (bw (2 ^ 38) (fun y : Int => True) a1)
def R := RR (p2 gd) (u2 md)
theorem ai {a0 a1} (h : gd a0 a1) : R (a0, (a1.map aP)) = some (md a0 a1) := aE (a := (a0, a1)) h
def aK := CN [.agg tT, pL 3] oB RT.dec R
theorem okF (a0) (a1) (hg : gd a0 a1) : F a0 (a1.map aP) = ret (md a0 a1) := by
 unfold gd at hg
 have H1 := hg
 unfold F md
 try simp only [SS]
 refine ct (Z39.ai trivial) ?_
 refine ak ret (fun c1 => ?_) (fun _ => rfl)
 refine ct (Z49.ai (H1.mono (by decide) (fun x hx => trivial))) ?_
 all_goals exact fz
theorem ab : Valid Tryz.prog Ev 345 aK := W2 17 F mix au okF (.cons Z39.ab (.cons Z49.ab .nil)) Tryz.func345
end Z50
namespace Z51
inductive Pt where
 | p0 (a : List (List L)) (b : List (List L)) (c : Int) (d : Int) (e : aO)
 | p1 (a : List (List L)) (b : List (List L)) (c : Int) (d : Int) (e : Int) (f : aO)
def pid : Pt → Nat
 | .p0 .. => 3
 | .p1 .. => 6
def bR : Pt → List V
 | .p0 a b c d e => [.sl none 3 a, .sl none 264 b, .cC 0 0, .int .i64 c, .int .i64 d]
 | .p1 a b c d e f => [.sl none 3 a, .sl none 264 b, .cC 0 0, .int .i64 c, .int .i64 d, .int .i64 e]
def bQ : Pt → List aI
 | .p0 a b c d e => [.box [.sl none 3 e.aF, .int .i64 e.bH]]
 | .p1 a b c d e f => [.box [.sl none 3 f.aF, .int .i64 f.bH]]
def step (J : Pt → ay) : Pt → ay
 | .p0 a b c d e => (cond (decide (d < (e.aF.length : Int))) (J (.p1 a b c d 0 e)) (ret (c : Int)))
 | .p1 a b c d e f => (cond (decide (e < (b.length : Int))) (m2 e (b.length : Int) (m2 d (f.aF.length : Int) (cond ((aJ.at b (Int.toNat e)).fq == (iu f.aF (Int.toNat d))) (m2 e (b.length : Int) (call (Z50.R ((aJ.at b (Int.toNat e)), a)) fun v1 => (cond v1 (J (.p0 a b (i64.wrap (c + 1)) (i64.wrap (d + 1)) f)) (J (.p1 a b c d (i64.wrap (e + 1)) f))))) (J (.p1 a b c d (i64.wrap (e + 1)) f))))) (J (.p0 a b c (i64.wrap (d + 1)) f)))
def start (J : Pt → ay) (x0 : aO) (x1 : List (List L)) (x2 : List (List L)) : ay := J (.p0 x1 x2 0 0 x0)
def live : Nat → Live := fun i => match i with | 3 => [(1, none), (2, none), (3, none), (7, none), (8, none)] | 6 => [(1, none), (2, none), (3, none), (7, none), (8, none), (9, none)] | _ => []
def md (a0 : aw) (a1 : List Int) (a2 : List aJ) : Int := (dG (S := Int) (β := Int) (fun (y1 : Int) (s3 : Int) => (dG (S := Unit) (β := (Int ⊕ Int)) (fun (y5 : aJ) (s7 : Unit) => (cond (y5.fq == y1) (cond (Z50.md y5 a1) (.inr (.inl (i64.wrap (s3 + 1)))) (.inl ())) (.inl ()))) (fun (s7 : Unit) => (.inl s3)) a2 ())) (fun (s3 : Int) => (s3 : Int)) a0.aF 0)
def gd (a0 : aw) (a1 : List Int) (a2 : List aJ) : Prop := (aw.Sm (2 ^ 21) a0) ∧ (bw (2 ^ 38) (fun y : Int => True) a1) ∧ (bw (2 ^ 21) (fun y : aJ => aJ.Sm (2 ^ 21) y) a2)
def R := RR (p3 gd) (u3 md)
theorem ai {a0 a1 a2} (h : gd a0 a1 a2) : R ((aw.r a0), (a1.map aP), (a2.map aJ.row)) = some (md a0 a1 a2) := aE (a := (a0, a1, a2)) h
def aK := CN [.agg gz, pL 3, pL 264] oI RT.dec R
theorem okF (a0) (a1) (a2) (hg : gd a0 a1 a2) : ∃ n, start (iter step n) (aw.r a0) (a1.map aP) (a2.map aJ.row) = ret (md a0 a1 a2) := by
  obtain ⟨H0, H1, H2⟩ := hg
  unfold start md
  try simp only [SS]
  have Bh2 : a0.aF.length ≤ maxLen := (by
      have := (H0).1
      try simp only [maxLen] at *
      omega)
  refine dV (out := ret) (dO (z := 0)) ?_
  refine dk (p := Pt.p0 (a1.map aP) (a2.map aJ.row) 0 0 (aw.r a0)) fz ?_
  refine qp (pt := fun (i1 : Nat) (s3 : Int) => Pt.p0 (a1.map aP) (a2.map aJ.row) s3 (i1 : Int) (aw.r a0)) (s := (0 : Int)) (out := ret) (fun _ _ => True) (fun i1 s3 h2 hih2 K4 hK4 rK4 => ?_) (fun s3 hih2 => ?_) trivial
  · simp only [step, SS]
    have bb_ := Bh2
    simp only [maxLen] at bb_
    have := (H0).1
    refine eR (by apply decide_eq_true; omega) ?_
    have Bh6 : a2.length ≤ maxLen := (by
        have := (H2).1
        try simp only [maxLen] at *
        omega)
    refine dV (out := K4) (dO (z := aJ.zero)) ?_
    refine dk (p := Pt.p1 (a1.map aP) (a2.map aJ.row) s3 (i1 : Int) 0 (aw.r a0)) fz ?_
    refine qp (pt := fun (i5 : Nat) (s7 : Unit) => Pt.p1 (a1.map aP) (a2.map aJ.row) s3 (i1 : Int) (i5 : Int) (aw.r a0)) (s := (() : Unit)) (out := K4) (fun _ _ => True) (fun i5 s7 h6 hih6 K8 hK8 rK8 => ?_) (fun s7 hih6 => ?_) trivial
    · simp only [step, SS]
      have bb_ := Bh6
      simp only [maxLen] at bb_
      have := (H2).1
      refine eR (by apply decide_eq_true; omega) ?_
      refine eR ax ?_
      refine eR (aD h6) ?_
      refine eR dt ?_
      refine eR (have := (H0).1; dt) ?_
      refine fw K8 (fun c9 => ?_) (fun c9 => ?_)
      · refine eR ax ?_
        refine eR (aD h6) ?_
        refine cx (Z50.ai H1) ?_
        refine fw K8 (fun c10 => ?_) (fun c10 => ?_)
        · rw [rK8]
          rw [az h2 Bh2]
          first | exact hK4 _ trivial | (simp only [SS]; exact hK4 _ trivial) | (simp only [MP]; exact hK4 _ trivial)
        · rw [az h6 Bh6]
          first | exact hK8 _ trivial | (simp only [SS]; exact hK8 _ trivial) | (simp only [MP]; exact hK8 _ trivial)
      · rw [az h6 Bh6]
        first | exact hK8 _ trivial | (simp only [SS]; exact hK8 _ trivial) | (simp only [MP]; exact hK8 _ trivial)
    · simp only [step, SS]
      have := (H2).1
      refine dh (by apply decide_eq_false; omega) ?_
      rw [az h2 Bh2]
      first | exact hK4 _ trivial | (simp only [SS]; exact hK4 _ trivial) | (simp only [MP]; exact hK4 _ trivial)
  · simp only [step, SS]
    have := (H0).1
    refine dh (by apply decide_eq_false; omega) ?_
    refine ⟨0, ?_⟩
    all_goals exact fz
theorem ab : Valid Tryz.prog Ev 320 aK := L3 45 pid bR bQ live step start mix au okF (.cons Z50.ab .nil) Tryz.func320
end Z51
namespace Z52
def F (x0 : aO) (x1 : List (List L)) (x2 : List (List L)) : ay := (call (Z40.R x0) fun v1 => (cond v1 (call (Z51.R (x0, x1, x2)) fun v2 => ret ((decide (v2 ≥ x0.bH)) : Bool)) (ret (false : Bool))))
def md (a0 : aw) (a1 : List Int) (a2 : List aJ) : Bool := (cond (Z40.md a0) ((decide ((Z51.md a0 a1 a2) ≥ a0.bH)) : Bool) (false : Bool))
def gd (a0 : aw) (a1 : List Int) (a2 : List aJ) : Prop := (aw.Sm (2 ^ 21) a0) ∧ (bw (2 ^ 38) (fun y : Int => True) a1) ∧ (bw (2 ^ 21) (fun y : aJ => aJ.Sm (2 ^ 21) y) a2)
def R := RR (p3 gd) (u3 md)
theorem ai {a0 a1 a2} (h : gd a0 a1 a2) : R ((aw.r a0), (a1.map aP), (a2.map aJ.row)) = some (md a0 a1 a2) := aE (a := (a0, a1, a2)) h
def aK := CN [.agg gz, pL 3, pL 264] oB RT.dec R
theorem okF (a0) (a1) (a2) (hg : gd a0 a1 a2) : F (aw.r a0) (a1.map aP) (a2.map aJ.row) = ret (md a0 a1 a2) := by
 obtain ⟨H0, H1, H2⟩ := hg
 unfold F md
 try simp only [SS]
 refine ct (Z40.ai H0) ?_
 refine ak ret (fun c1 => ?_) (fun _ => rfl)
 refine ct (Z51.ai ⟨H0, H1, H2⟩) ?_
 all_goals exact fz
theorem ab : Valid Tryz.prog Ev 276 aK := W3 18 F mix au okF (.cons Z40.ab (.cons Z51.ab .nil)) Tryz.func276
end Z52
namespace Z53
def F (x0 : aC) : ay := (call (Z42.R x0.ae) fun v1 => (cond v1 (cond (x0.ae.bN == 0) (cond (x0.ae.bg == 1) (cond (!x0.ae.aS) (call (Z46.R (x0.ae.bh, x0.ae.cB)) fun v2 => (cond (x0.ae.aT == v2) (call (Z47.R x0.ae) fun v3 => (call (Z52.R (x0.ae.bh, v3, x0.bC)) fun v4 => ret (v4 : Bool))) (ret (false : Bool)))) (ret (false : Bool))) (ret (false : Bool))) (ret (false : Bool))) (ret (false : Bool))))
def md (a0 : aa) : Bool := (cond (Z42.md a0.ae) (cond (a0.ae.bN == 0) (cond (a0.ae.bg == 1) (cond (!a0.ae.aS) (cond (a0.ae.aT == (Z46.md a0.ae.bh a0.ae.cB)) ((Z52.md a0.ae.bh (Z47.md a0.ae) a0.bC) : Bool) (false : Bool)) (false : Bool)) (false : Bool)) (false : Bool)) (false : Bool))
def gd (a0 : aa) : Prop := (aa.Sm (2 ^ 21) a0)
def R := RR gd md
theorem ai {a0} (h : gd a0) : R (aa.r a0) = some (md a0) := aE (a := a0) h
def aK := CN [.agg iR] oB RT.dec R
theorem okF (a0) (hg : gd a0) : F (aa.r a0) = ret (md a0) := by
 unfold gd at hg
 have H0 := hg
 unfold F md
 try simp only [SS]
 refine ct (Z42.ai H0.1) ?_
 refine ak ret (fun c1 => ?_) (fun _ => rfl)
 try have tc1 := Z42.tr (by simpa using c1)
 refine ak ret (fun c2 => ?_) (fun _ => rfl)
 have dc2 := c2
 try simp only [DC] at dc2
 refine ak ret (fun c3 => ?_) (fun _ => rfl)
 have dc3 := c3
 try simp only [DC] at dc3
 refine ak ret (fun c4 => ?_) (fun _ => rfl)
 have dc4 := c4
 try simp only [DC] at dc4
 refine ct (Z46.ai H0.1.1) ?_
 refine ak ret (fun c5 => ?_) (fun _ => rfl)
 have dc5 := c5
 try simp only [DC] at dc5
 refine ct (Z47.ai H0.1) ?_
 try simp only [SS]
 refine ct (Z52.ai ⟨H0.1.1, ⟨(have := Z47.len a0.ae; have := (H0.1.1).1; have := (H0.1.2.1).1; have := (H0.1.2.2).1; om), fun _ _ => trivial⟩, H0.2⟩) ?_
 all_goals exact fz
theorem ab : Valid Tryz.prog Ev 224 aK := W1 42 F mix au okF (.cons Z42.ab (.cons Z46.ab (.cons Z47.ab (.cons Z52.ab .nil)))) Tryz.func224
end Z53
namespace Z54
def F (x0 : bq) : ay := (call (Z47.R x0) fun v1 => (bJ (dU (((1 : Int) + (v1.length : Int)) * 8)) (call (Z45.R ([[L.int 233]] ++ v1)) fun v2 => ret (v2 : Int))))
def md (a0 : aq) : Int := ((Z45.md ([233] ++ (Z47.md a0))) : Int)
def gd (a0 : aq) : Prop := (aq.Sm (2 ^ 21) a0)
def R := RR gd md
theorem ai {a0} (h : gd a0) : R (aq.r a0) = some (md a0) := aE (a := a0) h
def aK := CN [.agg eA] oI RT.dec R
theorem okF (a0) (hg : gd a0) : F (aq.r a0) = ret (md a0) := by
 unfold gd at hg
 have H0 := hg
 unfold F md
 try simp only [SS]
 refine ct (Z47.ai H0) ?_
 try simp only [SS]
 refine af (have := Z47.len a0; have := (H0.1).1; have := (H0.2.1).1; have := (H0.2.2).1; lm) ?_
 refine aN (Z45.md ([233] ++ (Z47.md a0))) (rq (Z45.ai (a0 := ([233] ++ (Z47.md a0))) ⟨(have := Z47.len a0; have := (H0.1).1; have := (H0.2.1).1; have := (H0.2.2).1; om), fun _ _ => trivial⟩)) ?_
 all_goals exact fz
theorem ab : Valid Tryz.prog Ev 321 aK := W1 8 F mix au okF (.cons Z47.ab (.cons Z45.ab .nil)) Tryz.func321
end Z54
namespace Z55
def F (x0 : bq) (x1 : bq) : ay := (cond x0.aS (ret (4 : Int)) (cond x1.aS (ret (6 : Int)) (ret (1 : Int))))
def md (a0 : aq) (a1 : aq) : Int := (cond a0.aS (4 : Int) (cond a1.aS (6 : Int) (1 : Int)))
def gd (a0 : aq) (a1 : aq) : Prop := True
def R := RR (p2 gd) (u2 md)
theorem ai {a0 a1} (h : gd a0 a1) : R ((aq.r a0), (aq.r a1)) = some (md a0 a1) := aE (a := (a0, a1)) h
def aK := CN [.agg eA, .agg eA] oI RT.dec R
theorem okF (a0) (a1) (hg : gd a0 a1) : F (aq.r a0) (aq.r a1) = ret (md a0 a1) := by
 unfold F md
 try simp only [SS]
 refine ak ret (fun _ => rfl) (fun c1 => ?_)
 refine ak ret (fun _ => rfl) (fun _ => rfl)
theorem ab : Valid Tryz.prog Ev 322 aK := W2 11 F mix au okF .nil Tryz.func322
end Z55
namespace Z56
inductive Pt where
 | p0 (a : List (List L)) (b : List (List L)) (c : Int)
def pid : Pt → Nat
 | .p0 .. => 4
def bR : Pt → List V
 | .p0 a b c => [.sl none 3 a, .sl none 3 b, .int .i64 c]
def bQ : Pt → List aI
 | .p0 a b c => []
def step (J : Pt → ay) : Pt → ay
 | .p0 a b c => (cond (decide (c < (a.length : Int))) (m2 c (a.length : Int) (m2 c (b.length : Int) (cond ((iu a (Int.toNat c)) != (iu b (Int.toNat c))) (ret (false : Bool)) (J (.p0 a b (i64.wrap (c + 1))))))) (ret (true : Bool)))
def start (J : Pt → ay) (x0 : List (List L)) (x1 : List (List L)) : ay := (cond ((x0.length : Int) != (x1.length : Int)) (ret (false : Bool)) (J (.p0 x0 x1 0)))
def live : Nat → Live := fun i => match i with | 4 => [(0, none), (1, none), (5, none)] | _ => []
def md (a0 : List Int) (a1 : List Int) : Bool := (bif ((a0.length : Int) != (a1.length : Int)) then (false : Bool) else (dc (S := Unit) (β := Bool) (fun (i2 : Nat) (s4 : Unit) => (cond ((a0.getD i2 0) != (a1.getD i2 0)) (.inr (false : Bool)) (.inl ()))) (fun (s4 : Unit) => (true : Bool)) a0.length 0 ()))
def gd (a0 : List Int) (a1 : List Int) : Prop := (bw (2 ^ 38) (fun y : Int => True) a0) ∧ (bw (2 ^ 38) (fun y : Int => True) a1)
def R := RR (p2 gd) (u2 md)
theorem ai {a0 a1} (h : gd a0 a1) : R ((a0.map aP), (a1.map aP)) = some (md a0 a1) := aE (a := (a0, a1)) h
def aK := CN [pL 3, pL 3] oB RT.dec R
theorem okF (a0) (a1) (hg : gd a0 a1) : ∃ n, start (iter step n) (a0.map aP) (a1.map aP) = ret (md a0 a1) := by
  obtain ⟨H0, H1⟩ := hg
  unfold start md
  try simp only [SS]
  refine fw ret (fun _ => ⟨0, rfl⟩) (fun c1 => ?_)
  have dc1 := c1
  try simp only [DC] at dc1
  have Bh3 : a0.length ≤ maxLen := (by
      have := (H0).1
      try simp only [maxLen] at *
      omega)
  refine dk (p := Pt.p0 (a0.map aP) (a1.map aP) 0) fz ?_
  refine bP (pt := fun (i2 : Nat) (s4 : Unit) => Pt.p0 (a0.map aP) (a1.map aP) (i2 : Int)) (s := (() : Unit)) (out := ret) (fun _ _ => True) (fun J i2 s4 h3 hih3 => ?_) (fun s4 hih3 => ?_) trivial
  · simp only [step, SS]
    have bb_ := Bh3
    simp only [maxLen] at bb_
    have := (H0).1
    refine aY.yes (by apply decide_eq_true; omega) ?_
    refine aY.yes ax ?_
    refine aY.yes (aD h3) ?_
    refine aY.yes ax ?_
    refine aY.yes (have := (H1).1; dt) ?_
    refine aY.bif (fun _ => aY.inr rfl) (fun c5 => ?_)
    refine aY.inl trivial ?_
    rw [az h3 Bh3]
    all_goals exact fz
  · simp only [step, SS]
    have := (H0).1
    refine dh (by apply decide_eq_false; omega) ?_
    refine ⟨0, ?_⟩
    all_goals exact fz
theorem ab : Valid Tryz.prog Ev 226 aK := L2 26 pid bR bQ live step start mix au okF .nil Tryz.func226
theorem cp (a0 : List Int) (a1 : List Int) : md a0 a1 = cU a0 a1 := by
 unfold md
 refine iG (0) (fun i s h h2 => ?_) (fun s => rfl)
 simp only [bne, dL, bool_beq, dA]
 cases cU _ _ <;> rfl
end Z56
namespace Z57
def F (x0 : aO) (x1 : aO) : ay := (cond (x0.bH == x1.bH) (call (Z56.R (x0.aF, x1.aF)) fun v1 => ret (v1 : Bool)) (ret (false : Bool)))
def md (a0 : aw) (a1 : aw) : Bool := (cond (a0.bH == a1.bH) ((Z56.md a0.aF a1.aF) : Bool) (false : Bool))
def gd (a0 : aw) (a1 : aw) : Prop := (aw.Sm (2 ^ 21) a0) ∧ (aw.Sm (2 ^ 21) a1)
def R := RR (p2 gd) (u2 md)
theorem ai {a0 a1} (h : gd a0 a1) : R ((aw.r a0), (aw.r a1)) = some (md a0 a1) := aE (a := (a0, a1)) h
def aK := CN [.agg gz, .agg gz] oB RT.dec R
theorem okF (a0) (a1) (hg : gd a0 a1) : F (aw.r a0) (aw.r a1) = ret (md a0 a1) := by
 obtain ⟨H0, H1⟩ := hg
 unfold F md
 try simp only [SS]
 refine ak ret (fun c1 => ?_) (fun _ => rfl)
 refine ct (Z56.ai ⟨(H0.mono (by decide) (fun x hx => trivial)), (H1.mono (by decide) (fun x hx => trivial))⟩) ?_
 all_goals exact fz
theorem ab : Valid Tryz.prog Ev 346 aK := W2 17 F mix au okF (.cons Z56.ab .nil) Tryz.func346
theorem cp (a0 : aw) (a1 : aw) : md a0 a1 = cU a0 a1 := by
 unfold md
 cases a0; cases a1
 rw [Bool.eq_iff_iff]
 simp [ca, dA, aw.mk.injEq, Z56.cp]
 try (constructor <;> (intro h; simp_all))
end Z57
namespace Z58
def F (x0 : bq) (x1 : bq) : ay := (cond (x0.bG == x1.bG) (ret ((x0.cj == x1.cj) : Bool)) (ret (false : Bool)))
def md (a0 : aq) (a1 : aq) : Bool := (cond (a0.bG == a1.bG) ((a0.cj == a1.cj) : Bool) (false : Bool))
def gd (a0 : aq) (a1 : aq) : Prop := True
def R := RR (p2 gd) (u2 md)
theorem ai {a0 a1} (h : gd a0 a1) : R ((aq.r a0), (aq.r a1)) = some (md a0 a1) := aE (a := (a0, a1)) h
def aK := CN [.agg eA, .agg eA] oB RT.dec R
theorem okF (a0) (a1) (hg : gd a0 a1) : F (aq.r a0) (aq.r a1) = ret (md a0 a1) := by
 unfold F md
 try simp only [SS]
 refine ak ret (fun c1 => ?_) (fun _ => rfl)
 all_goals exact fz
theorem ab : Valid Tryz.prog Ev 347 aK := W2 17 F mix au okF .nil Tryz.func347
end Z58
namespace Z59
def F (x0 : bq) (x1 : bq) : ay := (cond x0.aS (ret (4 : Int)) (call (Z41.R x0.aQ) fun v1 => (cond v1 (ret (5 : Int)) (cond (decide (x1.bL < (i64.wrap (x0.bF + x0.cf)))) (ret (5 : Int)) (cond x1.aS (ret (6 : Int)) (call (Z57.R (x1.bh, x0.aQ)) fun v2 => (cond (!v2) (ret (6 : Int)) (call (Z58.R (x1, x0)) fun v3 => (cond (!v3) (ret (6 : Int)) (ret (1 : Int)))))))))))
def md (a0 : aq) (a1 : aq) : Int := (cond a0.aS (4 : Int) (cond (Z41.md a0.aQ) (5 : Int) (cond (decide (a1.bL < (i64.wrap (a0.bF + a0.cf)))) (5 : Int) (cond a1.aS (6 : Int) (cond (!(Z57.md a1.bh a0.aQ)) (6 : Int) (cond (!(Z58.md a1 a0)) (6 : Int) (1 : Int)))))))
def gd (a0 : aq) (a1 : aq) : Prop := (aq.Sm (2 ^ 21) a0) ∧ (aq.Sm (2 ^ 21) a1)
def R := RR (p2 gd) (u2 md)
theorem ai {a0 a1} (h : gd a0 a1) : R ((aq.r a0), (aq.r a1)) = some (md a0 a1) := aE (a := (a0, a1)) h
def aK := CN [.agg eA, .agg eA] oI RT.dec R
theorem okF (a0) (a1) (hg : gd a0 a1) : F (aq.r a0) (aq.r a1) = ret (md a0 a1) := by
 obtain ⟨H0, H1⟩ := hg
 unfold F md
 try simp only [SS]
 refine ak ret (fun _ => rfl) (fun c1 => ?_)
 refine ct (Z41.ai trivial) ?_
 refine ak ret (fun _ => rfl) (fun c2 => ?_)
 refine ak ret (fun _ => rfl) (fun c3 => ?_)
 refine ak ret (fun _ => rfl) (fun c4 => ?_)
 refine ct (Z57.ai ⟨H1.1, H0.2.1⟩) ?_
 refine ak ret (fun _ => rfl) (fun c5 => ?_)
 refine ct (Z58.ai trivial) ?_
 refine ak ret (fun _ => rfl) (fun _ => rfl)
theorem ab : Valid Tryz.prog Ev 323 aK := W2 39 F mix au okF (.cons Z41.ab (.cons Z57.ab (.cons Z58.ab .nil))) Tryz.func323
end Z59
namespace Z60
def F (x0 : bq) (x1 : bq) : ay := (call (Z41.R x0.aM) fun v1 => (cond v1 (ret (5 : Int)) (cond (x1.aS == x0.aS) (ret (6 : Int)) (call (Z58.R (x1, x0)) fun v2 => (cond (!v2) (ret (6 : Int)) (call (Z57.R (x1.aM, x0.aM)) fun v3 => (cond (!v3) (ret (6 : Int)) (call (Z57.R (x1.aQ, x0.aQ)) fun v4 => (cond (!v4) (ret (6 : Int)) (cond (x1.cf != x0.cf) (ret (6 : Int)) (cond x1.aS (call (Z57.R (x1.bh, x0.bh)) fun v5 => (cond (!v5) (ret (6 : Int)) (ret (1 : Int)))) (ret (1 : Int)))))))))))))
def md (a0 : aq) (a1 : aq) : Int := (cond (Z41.md a0.aM) (5 : Int) (cond (a1.aS == a0.aS) (6 : Int) (cond (!(Z58.md a1 a0)) (6 : Int) (cond (!(Z57.md a1.aM a0.aM)) (6 : Int) (cond (!(Z57.md a1.aQ a0.aQ)) (6 : Int) (cond (a1.cf != a0.cf) (6 : Int) (cond a1.aS (cond (!(Z57.md a1.bh a0.bh)) (6 : Int) (1 : Int)) (1 : Int))))))))
def gd (a0 : aq) (a1 : aq) : Prop := (aq.Sm (2 ^ 21) a0) ∧ (aq.Sm (2 ^ 21) a1)
def R := RR (p2 gd) (u2 md)
theorem ai {a0 a1} (h : gd a0 a1) : R ((aq.r a0), (aq.r a1)) = some (md a0 a1) := aE (a := (a0, a1)) h
def aK := CN [.agg eA, .agg eA] oI RT.dec R
theorem okF (a0) (a1) (hg : gd a0 a1) : F (aq.r a0) (aq.r a1) = ret (md a0 a1) := by
 obtain ⟨H0, H1⟩ := hg
 unfold F md
 try simp only [SS]
 refine ct (Z41.ai trivial) ?_
 refine ak ret (fun _ => rfl) (fun c1 => ?_)
 refine ak ret (fun _ => rfl) (fun c2 => ?_)
 refine ct (Z58.ai trivial) ?_
 refine ak ret (fun _ => rfl) (fun c3 => ?_)
 refine ct (Z57.ai ⟨H1.2.2, H0.2.2⟩) ?_
 refine ak ret (fun _ => rfl) (fun c4 => ?_)
 refine ct (Z57.ai ⟨H1.2.1, H0.2.1⟩) ?_
 refine ak ret (fun _ => rfl) (fun c5 => ?_)
 refine ak ret (fun _ => rfl) (fun c6 => ?_)
 refine ak ret (fun c7 => ?_) (fun _ => rfl)
 refine ct (Z57.ai ⟨H1.1, H0.1⟩) ?_
 refine ak ret (fun _ => rfl) (fun _ => rfl)
theorem ab : Valid Tryz.prog Ev 324 aK := W2 55 F mix au okF (.cons Z41.ab (.cons Z58.ab (.cons Z57.ab .nil))) Tryz.func324
end Z60
namespace Z61
def F (x0 : bq) (x1 : aC) : ay := (call (Z42.R x0) fun v1 => (cond (!v1) (ret (2 : Int)) (call (Z42.R x1.ae) fun v2 => (cond (!v2) (ret (2 : Int)) (cond (x1.ae.aT != x0.aT) (ret (3 : Int)) (cond (x1.ae.bN != (i64.wrap (x0.bN + 1))) (ret (3 : Int)) (call (Z54.R x0) fun v3 => (cond (x1.ae.cB != v3) (ret (3 : Int)) (cond (decide (x1.ae.bL < x0.bL)) (ret (3 : Int)) (call (Z55.R (x0, x1.ae)) fun v4 => (cond (x1.ae.bg == 2) (call (Z59.R (x0, x1.ae)) fun v5 => (cond (v5 == 1) (call (Z47.R x1.ae) fun v6 => (call (Z52.R (x0.aQ, v6, x1.bC)) fun v7 => (cond (!v7) (ret (7 : Int)) (ret (v5 : Int))))) (ret (v5 : Int)))) (cond (x1.ae.bg == 3) (call (Z60.R (x0, x1.ae)) fun v8 => (cond (v8 == 1) (call (Z47.R x1.ae) fun v9 => (call (Z52.R (x0.aM, v9, x1.bC)) fun v10 => (cond (!v10) (ret (7 : Int)) (ret (v8 : Int))))) (ret (v8 : Int)))) (cond (v4 == 1) (call (Z47.R x1.ae) fun v11 => (call (Z52.R (x0.bh, v11, x1.bC)) fun v12 => (cond (!v12) (ret (7 : Int)) (ret (v4 : Int))))) (ret (v4 : Int)))))))))))))))
def md (a0 : aq) (a1 : aa) : Int := (cond (!(Z42.md a0)) (2 : Int) (cond (!(Z42.md a1.ae)) (2 : Int) (cond (a1.ae.aT != a0.aT) (3 : Int) (cond (a1.ae.bN != (i64.wrap (a0.bN + 1))) (3 : Int) (cond (a1.ae.cB != (Z54.md a0)) (3 : Int) (cond (decide (a1.ae.bL < a0.bL)) (3 : Int) (cond (a1.ae.bg == 2) (cond ((Z59.md a0 a1.ae) == 1) (cond (!(Z52.md a0.aQ (Z47.md a1.ae) a1.bC)) (7 : Int) ((Z59.md a0 a1.ae) : Int)) ((Z59.md a0 a1.ae) : Int)) (cond (a1.ae.bg == 3) (cond ((Z60.md a0 a1.ae) == 1) (cond (!(Z52.md a0.aM (Z47.md a1.ae) a1.bC)) (7 : Int) ((Z60.md a0 a1.ae) : Int)) ((Z60.md a0 a1.ae) : Int)) (cond ((Z55.md a0 a1.ae) == 1) (cond (!(Z52.md a0.bh (Z47.md a1.ae) a1.bC)) (7 : Int) ((Z55.md a0 a1.ae) : Int)) ((Z55.md a0 a1.ae) : Int))))))))))
def gd (a0 : aq) (a1 : aa) : Prop := (aq.Sm (2 ^ 21) a0) ∧ (aa.Sm (2 ^ 21) a1)
def R := RR (p2 gd) (u2 md)
theorem ai {a0 a1} (h : gd a0 a1) : R ((aq.r a0), (aa.r a1)) = some (md a0 a1) := aE (a := (a0, a1)) h
def aK := CN [.agg eA, .agg iR] oI RT.dec R
theorem okF (a0) (a1) (hg : gd a0 a1) : F (aq.r a0) (aa.r a1) = ret (md a0 a1) := by
  obtain ⟨H0, H1⟩ := hg
  unfold F md
  try simp only [SS]
  refine ct (Z42.ai H0) ?_
  refine ak ret (fun _ => rfl) (fun c1 => ?_)
  have dc1 := c1
  try simp only [DC] at dc1
  try have tc1 := Z42.tr (by simpa using c1)
  refine ct (Z42.ai H1.1) ?_
  refine ak ret (fun _ => rfl) (fun c2 => ?_)
  have dc2 := c2
  try simp only [DC] at dc2
  try have tc2 := Z42.tr (by simpa using c2)
  refine ak ret (fun _ => rfl) (fun c3 => ?_)
  have dc3 := c3
  try simp only [DC] at dc3
  refine ak ret (fun _ => rfl) (fun c4 => ?_)
  have dc4 := c4
  try simp only [DC] at dc4
  refine ct (Z54.ai H0) ?_
  refine ak ret (fun _ => rfl) (fun c5 => ?_)
  have dc5 := c5
  try simp only [DC] at dc5
  refine ak ret (fun _ => rfl) (fun c6 => ?_)
  have dc6 := c6
  try simp only [DC] at dc6
  refine ct (Z55.ai trivial) ?_
  refine ak ret (fun c7 => ?_) (fun c7 => ?_)
  · have dc7 := c7
    try simp only [DC] at dc7
    refine ct (Z59.ai ⟨H0, H1.1⟩) ?_
    refine ak ret (fun c8 => ?_) (fun c8 => ?_)
    · have dc8 := c8
      try simp only [DC] at dc8
      refine ct (Z47.ai H1.1) ?_
      try simp only [SS]
      refine ct (Z52.ai ⟨H0.2.1, ⟨(have := Z47.len a1.ae; have := (H1.1.1).1; have := (H1.1.2.1).1; have := (H1.1.2.2).1; om), fun _ _ => trivial⟩, H1.2⟩) ?_
      refine ak ret (fun _ => rfl) (fun c9 => ?_)
      all_goals exact fz
    · all_goals exact fz
  · have dc7 := c7
    try simp only [DC] at dc7
    refine ak ret (fun c10 => ?_) (fun c10 => ?_)
    · have dc10 := c10
      try simp only [DC] at dc10
      refine ct (Z60.ai ⟨H0, H1.1⟩) ?_
      refine ak ret (fun c11 => ?_) (fun c11 => ?_)
      · have dc11 := c11
        try simp only [DC] at dc11
        refine ct (Z47.ai H1.1) ?_
        try simp only [SS]
        refine ct (Z52.ai ⟨H0.2.2, ⟨(have := Z47.len a1.ae; have := (H1.1.1).1; have := (H1.1.2.1).1; have := (H1.1.2.2).1; om), fun _ _ => trivial⟩, H1.2⟩) ?_
        refine ak ret (fun _ => rfl) (fun c12 => ?_)
        all_goals exact fz
      · all_goals exact fz
    · have dc10 := c10
      try simp only [DC] at dc10
      refine ak ret (fun c13 => ?_) (fun c13 => ?_)
      · have dc13 := c13
        try simp only [DC] at dc13
        refine ct (Z47.ai H1.1) ?_
        try simp only [SS]
        refine ct (Z52.ai ⟨H0.1, ⟨(have := Z47.len a1.ae; have := (H1.1.1).1; have := (H1.1.2.1).1; have := (H1.1.2.2).1; om), fun _ _ => trivial⟩, H1.2⟩) ?_
        refine ak ret (fun _ => rfl) (fun c14 => ?_)
        all_goals exact fz
      · all_goals exact fz
theorem ab : Valid Tryz.prog Ev 277 aK := W2 78 F mix au okF (.cons Z42.ab (.cons Z54.ab (.cons Z55.ab (.cons Z59.ab (.cons Z47.ab (.cons Z52.ab (.cons Z60.ab .nil))))))) Tryz.func277
end Z61
namespace Z62
def F (x0 : bq) (x1 : aC) : ay := (call (Z61.R (x0, x1)) fun v1 => ret ((v1 == 1) : Bool))
def md (a0 : aq) (a1 : aa) : Bool := (((Z61.md a0 a1) == 1) : Bool)
def gd (a0 : aq) (a1 : aa) : Prop := (aq.Sm (2 ^ 21) a0) ∧ (aa.Sm (2 ^ 21) a1)
def R := RR (p2 gd) (u2 md)
theorem ai {a0 a1} (h : gd a0 a1) : R ((aq.r a0), (aa.r a1)) = some (md a0 a1) := aE (a := (a0, a1)) h
def aK := CN [.agg eA, .agg iR] oB RT.dec R
theorem okF (a0) (a1) (hg : gd a0 a1) : F (aq.r a0) (aa.r a1) = ret (md a0 a1) := by
 obtain ⟨H0, H1⟩ := hg
 unfold F md
 try simp only [SS]
 refine ct (Z61.ai ⟨H0, H1⟩) ?_
 all_goals exact fz
theorem ab : Valid Tryz.prog Ev 225 aK := W2 9 F mix au okF (.cons Z61.ab .nil) Tryz.func225
end Z62
namespace Z63
inductive Pt where
 | p0 (a : List (List L)) (b : Int)
def pid : Pt → Nat
 | .p0 .. => 2
def bR : Pt → List V
 | .p0 a b => [.sl none 202 a, .int .i64 b]
def bQ : Pt → List aI
 | .p0 a b => []
def step (J : Pt → ay) : Pt → ay
 | .p0 a b => (cond (decide (b < (a.length : Int))) (cond (b == 0) (bJ (decide ((0 : Int) < (a.length : Int))) (call (Z53.R (aC.at a 0)) fun v1 => (cond (!v1) (ret (b : Int)) (cond (decide (b > 0)) (bJ (decide ((0 : Int) ≤ (i64.wrap (b - 1)))) (bJ (decide ((i64.wrap (b - 1)) < (a.length : Int))) (m2 b (a.length : Int) (call (Z62.R ((aC.at a (Int.toNat (i64.wrap (b - 1)))).ae, (aC.at a (Int.toNat b)))) fun v2 => (cond (!v2) (ret (b : Int)) (J (.p0 a (i64.wrap (b + 1))))))))) (J (.p0 a (i64.wrap (b + 1)))))))) (cond (decide (b > 0)) (bJ (decide ((0 : Int) ≤ (i64.wrap (b - 1)))) (bJ (decide ((i64.wrap (b - 1)) < (a.length : Int))) (m2 b (a.length : Int) (call (Z62.R ((aC.at a (Int.toNat (i64.wrap (b - 1)))).ae, (aC.at a (Int.toNat b)))) fun v3 => (cond (!v3) (ret (b : Int)) (J (.p0 a (i64.wrap (b + 1))))))))) (J (.p0 a (i64.wrap (b + 1)))))) (ret ((-1) : Int)))
def start (J : Pt → ay) (x0 : List (List L)) : ay := J (.p0 x0 0)
def live : Nat → Live := fun i => match i with | 2 => [(0, none), (3, none)] | _ => []
def md (a0 : List aa) : Int := (dy (S := Unit) (β := Int) (fun (i1 : Nat) (y1 : aa) (s3 : Unit) => (cond ((i1 : Int) == 0) (cond (!(Z53.md (a0.getD 0 aa.zero))) (.inr ((i1 : Int) : Int)) (cond (decide ((i1 : Int) > 0)) (cond (!(Z62.md ((a0.getD (Int.toNat (i64.wrap ((i1 : Int) - 1))) aa.zero).ae) y1)) (.inr ((i1 : Int) : Int)) (.inl ())) (.inl ()))) (cond (decide ((i1 : Int) > 0)) (cond (!(Z62.md ((a0.getD (Int.toNat (i64.wrap ((i1 : Int) - 1))) aa.zero).ae) y1)) (.inr ((i1 : Int) : Int)) (.inl ())) (.inl ())))) (fun (s3 : Unit) => ((-1) : Int)) 0 a0 ())
def gd (a0 : List aa) : Prop := (bw (2 ^ 21) (fun y : aa => aa.Sm (2 ^ 21) y) a0)
def R := RR gd md
theorem ai {a0} (h : gd a0) : R (a0.map aa.row) = some (md a0) := aE (a := a0) h
def aK := CN [pL 202] oI RT.dec R
theorem okF (a0) (hg : gd a0) : ∃ n, start (iter step n) (a0.map aa.row) = ret (md a0) := by
  unfold gd at hg
  have H0 := hg
  unfold start md
  try simp only [SS]
  have Bh2 : a0.length ≤ maxLen := (by
      have := (H0).1
      try simp only [maxLen] at *
      omega)
  refine dV (out := ret) (cV (z := aa.zero)) ?_
  refine dk (p := Pt.p0 (a0.map aa.row) 0) fz ?_
  refine bP (pt := fun (i1 : Nat) (s3 : Unit) => Pt.p0 (a0.map aa.row) (i1 : Int)) (s := (() : Unit)) (out := ret) (fun _ _ => True) (fun J i1 s3 h2 hih2 => ?_) (fun s3 hih2 => ?_) trivial
  · simp only [step, SS]
    have bb_ := Bh2
    simp only [maxLen] at bb_
    have := (H0).1
    refine aY.yes (by apply decide_eq_true; omega) ?_
    refine aY.bif (fun c4 => ?_) (fun c4 => ?_)
    · have dc4 := c4
      try simp only [DC] at dc4
      refine aY.yes (have := (H0).1; dt) ?_
      refine cr (Z53.ai (bw.getD (z := aa.zero) H0 (by first | assumption | omega | (simp (disch := omega) only [wi]; omega) | (simp; omega)))) ?_
      refine aY.bif (fun c5 => ?_) (fun c5 => ?_)
      · refine aY.inr ?_
        all_goals exact fz
      · have dc5 := c5
        try simp only [DC] at dc5
        refine aY.bif (fun c6 => ?_) (fun c6 => ?_)
        · have dc6 := c6
          try simp only [DC] at dc6
          refine aY.yes dt ?_
          refine aY.yes (have := (H0).1; dt) ?_
          refine aY.yes ax ?_
          refine aY.yes (aD h2) ?_
          refine cr (Z62.ai ⟨(bw.getD (z := aa.zero) H0 (by first | assumption | omega | (simp (disch := omega) only [wi]; omega) | (simp; omega))).1, (bw.getD (z := aa.zero) H0 h2)⟩) ?_
          refine aY.bif (fun c7 => ?_) (fun c7 => ?_)
          · refine aY.inr ?_
            all_goals exact fz
          · refine aY.inl trivial ?_
            rw [az h2 Bh2]
            all_goals exact fz
        · refine aY.inl trivial ?_
          rw [az h2 Bh2]
          all_goals exact fz
    · have dc4 := c4
      try simp only [DC] at dc4
      refine aY.bif (fun c8 => ?_) (fun c8 => ?_)
      · have dc8 := c8
        try simp only [DC] at dc8
        refine aY.yes dt ?_
        refine aY.yes (have := (H0).1; dt) ?_
        refine aY.yes ax ?_
        refine aY.yes (aD h2) ?_
        refine cr (Z62.ai ⟨(bw.getD (z := aa.zero) H0 (by first | assumption | omega | (simp (disch := omega) only [wi]; omega) | (simp; omega))).1, (bw.getD (z := aa.zero) H0 h2)⟩) ?_
        refine aY.bif (fun c9 => ?_) (fun c9 => ?_)
        · refine aY.inr ?_
          all_goals exact fz
        · refine aY.inl trivial ?_
          rw [az h2 Bh2]
          all_goals exact fz
      · refine aY.inl trivial ?_
        rw [az h2 Bh2]
        all_goals exact fz
  · simp only [step, SS]
    have := (H0).1
    refine dh (by apply decide_eq_false; omega) ?_
    refine ⟨0, ?_⟩
    all_goals exact fz
theorem ab : Valid Tryz.prog Ev 183 aK := L1 38 pid bR bQ live step start mix au okF (.cons Z53.ab (.cons Z62.ab .nil)) Tryz.func183
end Z63
namespace Z64
def F (x0 : List (List L)) : ay := (call (Z39.R ((x0.length : Int), 1, 12)) fun v1 => (cond v1 (call (Z63.R x0) fun v2 => ret ((decide (v2 < 0)) : Bool)) (ret (false : Bool))))
def md (a0 : List aa) : Bool := (cond (Z39.md (a0.length : Int) 1 12) ((decide ((Z63.md a0) < 0)) : Bool) (false : Bool))
def gd (a0 : List aa) : Prop := (bw (2 ^ 21) (fun y : aa => aa.Sm (2 ^ 21) y) a0)
def R := RR gd md
theorem ai {a0} (h : gd a0) : R (a0.map aa.row) = some (md a0) := aE (a := a0) h
def aK := CN [pL 202] oB RT.dec R
theorem okF (a0) (hg : gd a0) : F (a0.map aa.row) = ret (md a0) := by
 unfold gd at hg
 have H0 := hg
 unfold F md
 try simp only [SS]
 refine ct (Z39.ai trivial) ?_
 refine ak ret (fun c1 => ?_) (fun _ => rfl)
 refine ct (Z63.ai H0) ?_
 all_goals exact fz
theorem ab : Valid Tryz.prog Ev 134 aK := W1 11 F mix au okF (.cons Z39.ab (.cons Z63.ab .nil)) Tryz.func134
theorem tr {a0 : List aa} (h : md a0 = true) : 1 ≤ a0.length ∧ a0.length ≤ 12 := by simp [md, Z39.md] at h; omega
theorem nw {l : List aa} (h : md l = true) : ∀ i, i < l.length → Z42.md (l.getD i aa.zero).ae = true := by
  intro i hi
  have hl := tr h
  have h1 : Z63.md l < 0 := by
    unfold md at h
    cases hc : Z39.md (l.length : Int) 1 12 <;> rw [hc] at h
    · cases h
    · simpa using h
  unfold Z63.md at h1
  have h2 := ou (z := aa.zero) (by
    intro i x s b h
    revert h
    simp only [Bool.cond_eq_ite]
    repeat' split
    all_goals (intro h; first | (cases h; rfl) | cases h)) h1 i hi
  by_cases h0 : i = 0
  · subst h0
    cases hf : Z53.md (l.getD 0 aa.zero)
    · rw [hf] at h2; cases h2
    · unfold Z53.md at hf
      cases hh : Z42.md (l.getD 0 aa.zero).ae
      · rw [hh] at hf; cases hf
      · rfl
  · have e : ((i : Int) == 0) = false := beq_eq_false_iff_ne.2 (by omega)
    have e2 : decide ((i : Int) > 0) = true := by simpa using by omega
    simp only [e, e2, cond_false, cond_true] at h2
    cases hf : Z62.md ((l.getD (Int.toNat (i64.wrap ((i : Int) - 1))) aa.zero).ae) (l.getD i aa.zero)
    · rw [hf] at h2; cases h2
    · unfold Z62.md Z61.md at hf
      cases hh : Z42.md (l.getD i aa.zero).ae
      · rw [hh] at hf
        cases hp : Z42.md ((l.getD (Int.toNat (i64.wrap ((i : Int) - 1))) aa.zero).ae) <;> rw [hp] at hf <;> cases hf
      · rfl
theorem wJ {l : List aa} (h : md l = true) : ∀ i, i < l.length → (l.getD i aa.zero).ae.aT = (l.getD 0 aa.zero).ae.aT := by
  have hl := tr h
  have h1 : Z63.md l < 0 := by
    unfold md at h
    cases hc : Z39.md (l.length : Int) 1 12 <;> rw [hc] at h
    · cases h
    · simpa using h
  unfold Z63.md at h1
  have h2 := ou (z := aa.zero) (by
    intro i x s b h
    revert h
    simp only [Bool.cond_eq_ite]
    repeat' split
    all_goals (intro h; first | (cases h; rfl) | cases h)) h1
  intro i
  induction i with
  | zero => intro _; rfl
  | succ i ih =>
    intro hi
    have h3 := h2 (i + 1) hi
    have e : (((i + 1 : Nat) : Int) == 0) = false := beq_eq_false_iff_ne.2 (by omega)
    have e2 : decide (((i + 1 : Nat) : Int) > 0) = true := by simpa using by omega
    have ei : Int.toNat (i64.wrap (((i + 1 : Nat) : Int) - 1)) = i := by simp (disch := omega) only [wi]; omega
    simp only [e, e2, cond_false, cond_true] at h3
    rw [ei] at h3
    cases hf : Z62.md ((l.getD i aa.zero).ae) (l.getD (i + 1) aa.zero)
    · rw [hf] at h3; cases h3
    · unfold Z62.md Z61.md at hf
      cases hz : ((l.getD (i + 1) aa.zero).ae.aT != (l.getD i aa.zero).ae.aT)
      · rw [← ih (by omega)]; exact (by simpa using hz)
      · rw [hz] at hf
        cases hp : Z42.md (l.getD i aa.zero).ae <;> rw [hp] at hf
        · cases hf
        · cases hh : Z42.md (l.getD (i + 1) aa.zero).ae <;> rw [hh] at hf <;> cases hf
end Z64
namespace Z65
def F (x0 : List (List L)) : ay := (call (Z64.R x0) fun v1 => (cond (!v1) (ret (((⟨0, 0, 0, 0, 0, 0, 0, 0, (⟨[], 0⟩ : aO), (⟨[], 0⟩ : aO), 0, (⟨[], 0⟩ : aO), false⟩ : bq), false) : bq × Bool)) (bJ (decide ((0 : Int) ≤ (i64.wrap ((x0.length : Int) - 1)))) (bJ (decide ((i64.wrap ((x0.length : Int) - 1)) < (x0.length : Int))) (call (Z34.R ((aC.at x0 (Int.toNat (i64.wrap ((x0.length : Int) - 1)))).ae)) fun v2 => ret ((v2, true) : bq × Bool))))))
def md (a0 : List aa) : aq × Bool := (cond (!(Z64.md a0)) ((⟨0, 0, 0, 0, 0, 0, 0, 0, (⟨[], 0⟩ : aw), (⟨[], 0⟩ : aw), 0, (⟨[], 0⟩ : aw), false⟩ : aq), false) (((a0.getD (Int.toNat (i64.wrap ((a0.length : Int) - 1))) aa.zero).ae), true))
def gd (a0 : List aa) : Prop := (bw (2 ^ 21) (fun y : aa => aa.Sm (2 ^ 21) y) a0)
def R := RR gd md
theorem ai {a0} (h : gd a0) : R (a0.map aa.row) = some ((aq.r (md a0).1), (md a0).2) := aE (a := a0) h
def aK := CN [pL 202] (.iw [(true, f125), (false, [fB])]) RT.dec R
theorem okF (a0) (hg : gd a0) : F (a0.map aa.row) = ret ((aq.r (md a0).1), (md a0).2) := by
  unfold gd at hg
  have H0 := hg
  unfold F md
  try simp only [SS]
  refine ct (Z64.ai H0) ?_
  refine ak (fun b : aq × Bool => ret (((aq.r b.1), b.2) : bq × Bool)) (fun c1 => ?_) (fun c1 => ?_)
  · all_goals exact fz
  · have dc1 := c1
    try simp only [DC] at dc1
    try have tc1 := Z64.tr (by simpa using c1)
    refine af (have := (H0).1; dt) ?_
    refine af (have := (H0).1; dt) ?_
    refine ct (Z34.ai (bw.getD (z := aa.zero) H0 (by first | assumption | omega | (simp (disch := omega) only [wi]; omega) | (simp; omega))).1) ?_
    try simp only [SS]
    all_goals exact fz
theorem ab : Valid Tryz.prog Ev 69 aK := W1 16 F mix au okF (.cons Z64.ab (.cons Z34.ab .nil)) Tryz.func69
theorem head {l : List aa} (h : (md l).2 = true) : Z64.md l = true ∧ (md l).1 = (l.getD (l.length - 1) aa.zero).ae ∧ Z42.md (md l).1 = true := by
  unfold md at h ⊢
  cases hc : Z64.md l
  · rw [hc] at h; cases h
  · have hl := Z64.tr hc
    have hw : Int.toNat (i64.wrap ((l.length : Int) - 1)) = l.length - 1 := by
      rw [Go.IntWalk.i64_in _ (by omega)]; omega
    simp only [Bool.not_true, cond_false, hw]
    exact ⟨trivial, trivial, Z64.nw hc _ (by omega)⟩
end Z65
namespace Z66
inductive Pt where
 | p0 (a : Int) (b : Int) (c : aW)
def pid : Pt → Nat
 | .p0 .. => 2
def bR : Pt → List V
 | .p0 a b c => [.int .i64 a, .cC 0 0, .int .i64 b]
def bQ : Pt → List aI
 | .p0 a b c => [.box [.sl none 116 c.aA, .sl none 204 c.aR]]
def step (J : Pt → ay) : Pt → ay
 | .p0 a b c => (cond (decide (b < (c.aA.length : Int))) (m2 b (c.aA.length : Int) (cond (decide (((lA c.aA (Int.toNat b)).length : Int) > 0)) (m2 b (c.aA.length : Int) (bJ (decide ((0 : Int) < ((lA c.aA (Int.toNat b)).length : Int))) (cond ((aC.at (lA c.aA (Int.toNat b)) 0).ae.aT == a) (ret (b : Int)) (J (.p0 a (i64.wrap (b + 1)) c))))) (J (.p0 a (i64.wrap (b + 1)) c)))) (ret ((-1) : Int)))
def start (J : Pt → ay) (x0 : aW) (x1 : Int) : ay := J (.p0 x1 0 x0)
def live : Nat → Live := fun i => match i with | 2 => [(1, none), (2, none), (5, none)] | _ => []
def md (a0 : ah) (a1 : Int) : Int := (dy (S := Unit) (β := Int) (fun (i1 : Nat) (y1 : List aa) (s3 : Unit) => (cond (decide ((y1.length : Int) > 0)) (cond (((y1.getD 0 aa.zero).ae).aT == a1) (.inr ((i1 : Int) : Int)) (.inl ())) (.inl ()))) (fun (s3 : Unit) => ((-1) : Int)) 0 a0.aA ())
def gd (a0 : ah) (a1 : Int) : Prop := (ah.Sm (2 ^ 21) a0)
def R := RR (p2 gd) (u2 md)
theorem ai {a0 a1} (h : gd a0 a1) : R ((ah.r a0), a1) = some (md a0 a1) := aE (a := (a0, a1)) h
def aK := CN [.agg rh, pI] oI RT.dec R
theorem okF (a0) (a1) (hg : gd a0 a1) : ∃ n, start (iter step n) (ah.r a0) a1 = ret (md a0 a1) := by
  unfold gd at hg
  have H0 := hg
  unfold start md
  try simp only [SS]
  have Bh2 : a0.aA.length ≤ maxLen := (by
      have := (H0.1).1
      try simp only [maxLen] at *
      omega)
  refine dV (out := ret) (cV (z := [])) ?_
  refine dk (p := Pt.p0 a1 0 (ah.r a0)) fz ?_
  refine bP (pt := fun (i1 : Nat) (s3 : Unit) => Pt.p0 a1 (i1 : Int) (ah.r a0)) (s := (() : Unit)) (out := ret) (fun _ _ => True) (fun J i1 s3 h2 hih2 => ?_) (fun s3 hih2 => ?_) trivial
  · simp only [step, SS]
    have bb_ := Bh2
    simp only [maxLen] at bb_
    have := (H0.1).1
    refine aY.yes (by apply decide_eq_true; omega) ?_
    refine aY.yes ax ?_
    refine aY.yes (aD h2) ?_
    refine aY.bif (fun c4 => ?_) (fun c4 => ?_)
    · have dc4 := c4
      try simp only [DC] at dc4
      refine aY.yes ax ?_
      refine aY.yes (aD h2) ?_
      refine aY.yes (have := ((bw.getD (z := []) H0.1 h2)).1; dt) ?_
      refine aY.bif (fun c5 => ?_) (fun c5 => ?_)
      · refine aY.inr ?_
        all_goals exact fz
      · refine aY.inl trivial ?_
        rw [az h2 Bh2]
        all_goals exact fz
    · refine aY.inl trivial ?_
      rw [az h2 Bh2]
      all_goals exact fz
  · simp only [step, SS]
    have := (H0.1).1
    refine dh (by apply decide_eq_false; omega) ?_
    refine ⟨0, ?_⟩
    all_goals exact fz
theorem ab : Valid Tryz.prog Ev 137 aK := L2 34 pid bR bQ live step start mix au okF .nil Tryz.func137
theorem fa (a0 : ah) (a1 : Int) : -1 ≤ md a0 a1 ∧ md a0 a1 < (a0.aA.length : Int) := by
 unfold md
 refine iy ?_ _ _
 all_goals
  intro i x s b h
  revert h
  simp only [Bool.cond_eq_ite]
  repeat' split
  all_goals (intro h; first | (cases h; rfl) | cases h)
end Z66
namespace Z67
def F (x0 : bq) (x1 : bq) : ay := (call (Z47.R x0) fun v1 => (call (Z47.R x1) fun v2 => (call (Z56.R (v1, v2)) fun v3 => (cond v3 (ret ((x0.aS == x1.aS) : Bool)) (ret (false : Bool))))))
def md (a0 : aq) (a1 : aq) : Bool := (cond (Z56.md (Z47.md a0) (Z47.md a1)) ((a0.aS == a1.aS) : Bool) (false : Bool))
def gd (a0 : aq) (a1 : aq) : Prop := (aq.Sm (2 ^ 21) a0) ∧ (aq.Sm (2 ^ 21) a1)
def R := RR (p2 gd) (u2 md)
theorem ai {a0 a1} (h : gd a0 a1) : R ((aq.r a0), (aq.r a1)) = some (md a0 a1) := aE (a := (a0, a1)) h
def aK := CN [.agg eA, .agg eA] oB RT.dec R
theorem okF (a0) (a1) (hg : gd a0 a1) : F (aq.r a0) (aq.r a1) = ret (md a0 a1) := by
 obtain ⟨H0, H1⟩ := hg
 unfold F md
 try simp only [SS]
 refine ct (Z47.ai H0) ?_
 try simp only [SS]
 refine ct (Z47.ai H1) ?_
 try simp only [SS]
 refine ct (Z56.ai ⟨⟨(have := Z47.len a0; have := (H0.1).1; have := (H0.2.1).1; have := (H0.2.2).1; om), fun _ _ => trivial⟩, ⟨(have := Z47.len a1; have := (H1.1).1; have := (H1.2.1).1; have := (H1.2.2).1; om), fun _ _ => trivial⟩⟩) ?_
 refine ak ret (fun c1 => ?_) (fun _ => rfl)
 all_goals exact fz
theorem ab : Valid Tryz.prog Ev 186 aK := W2 17 F mix au okF (.cons Z47.ab (.cons Z56.ab .nil)) Tryz.func186
theorem cp (a0 : aq) (a1 : aq) : md a0 a1 = cU a0 a1 := by
  unfold md
  simp only [Z56.cp, bool_beq]
  rw [Bool.eq_iff_iff]
  constructor
  · intro h
    cases he : cU (Z47.md a0) (Z47.md a1) <;> rw [he] at h
    · cases h
    · exact ca.2 (Z47.inj (ca.1 he))
  · intro h
    rw [ca] at h
    rw [h, eC, eC]; rfl
end Z67
namespace Z68
inductive Pt where
 | p0 (a : List (List L)) (b : List (List L)) (c : Int)
def pid : Pt → Nat
 | .p0 .. => 4
def bR : Pt → List V
 | .p0 a b c => [.sl none 202 a, .sl none 202 b, .int .i64 c]
def bQ : Pt → List aI
 | .p0 a b c => []
def step (J : Pt → ay) : Pt → ay
 | .p0 a b c => (cond (decide (c < (a.length : Int))) (m2 c (a.length : Int) (m2 c (b.length : Int) (call (Z67.R ((aC.at a (Int.toNat c)).ae, (aC.at b (Int.toNat c)).ae)) fun v1 => (cond (!v1) (ret (false : Bool)) (J (.p0 a b (i64.wrap (c + 1)))))))) (ret (true : Bool)))
def start (J : Pt → ay) (x0 : List (List L)) (x1 : List (List L)) : ay := (cond (decide ((x0.length : Int) > (x1.length : Int))) (ret (false : Bool)) (J (.p0 x0 x1 0)))
def live : Nat → Live := fun i => match i with | 4 => [(0, none), (1, none), (5, none)] | _ => []
def md (a0 : List aa) (a1 : List aa) : Bool := (bif (decide ((a0.length : Int) > (a1.length : Int))) then (false : Bool) else (dc (S := Unit) (β := Bool) (fun (i2 : Nat) (s4 : Unit) => (cond (!(Z67.md ((a0.getD i2 aa.zero).ae) ((a1.getD i2 aa.zero).ae))) (.inr (false : Bool)) (.inl ()))) (fun (s4 : Unit) => (true : Bool)) a0.length 0 ()))
def gd (a0 : List aa) (a1 : List aa) : Prop := (bw (2 ^ 21) (fun y : aa => aa.Sm (2 ^ 21) y) a0) ∧ (bw (2 ^ 21) (fun y : aa => aa.Sm (2 ^ 21) y) a1)
def R := RR (p2 gd) (u2 md)
theorem ai {a0 a1} (h : gd a0 a1) : R ((a0.map aa.row), (a1.map aa.row)) = some (md a0 a1) := aE (a := (a0, a1)) h
def aK := CN [pL 202, pL 202] oB RT.dec R
theorem okF (a0) (a1) (hg : gd a0 a1) : ∃ n, start (iter step n) (a0.map aa.row) (a1.map aa.row) = ret (md a0 a1) := by
  obtain ⟨H0, H1⟩ := hg
  unfold start md
  try simp only [SS]
  refine fw ret (fun _ => ⟨0, rfl⟩) (fun c1 => ?_)
  have dc1 := c1
  try simp only [DC] at dc1
  have Bh3 : a0.length ≤ maxLen := (by
      have := (H0).1
      try simp only [maxLen] at *
      omega)
  refine dk (p := Pt.p0 (a0.map aa.row) (a1.map aa.row) 0) fz ?_
  refine bP (pt := fun (i2 : Nat) (s4 : Unit) => Pt.p0 (a0.map aa.row) (a1.map aa.row) (i2 : Int)) (s := (() : Unit)) (out := ret) (fun _ _ => True) (fun J i2 s4 h3 hih3 => ?_) (fun s4 hih3 => ?_) trivial
  · simp only [step, SS]
    have bb_ := Bh3
    simp only [maxLen] at bb_
    have := (H0).1
    refine aY.yes (by apply decide_eq_true; omega) ?_
    refine aY.yes ax ?_
    refine aY.yes (aD h3) ?_
    refine aY.yes ax ?_
    refine aY.yes (have := (H1).1; dt) ?_
    refine cr (Z67.ai ⟨(bw.getD (z := aa.zero) H0 h3).1, (bw.getD (z := aa.zero) H1 (by first | assumption | omega | (simp (disch := omega) only [wi]; omega) | (simp; omega))).1⟩) ?_
    refine aY.bif (fun _ => aY.inr rfl) (fun c5 => ?_)
    refine aY.inl trivial ?_
    rw [az h3 Bh3]
    all_goals exact fz
  · simp only [step, SS]
    have := (H0).1
    refine dh (by apply decide_eq_false; omega) ?_
    refine ⟨0, ?_⟩
    all_goals exact fz
theorem ab : Valid Tryz.prog Ev 185 aK := L2 29 pid bR bQ live step start mix au okF (.cons Z67.ab .nil) Tryz.func185
end Z68
namespace Z69
def F (x0 : aW) (x1 : List (List L)) : ay := (call (Z64.R x1) fun v1 => (cond (!v1) (ret (6 : Int)) (bJ (decide ((0 : Int) < (x1.length : Int))) (call (Z66.R (x0, (aC.at x1 0).ae.aT)) fun v2 => (cond (decide (v2 < 0)) (ret (1 : Int)) (m2 v2 (x0.aA.length : Int) (call (Z68.R ((lA x0.aA (Int.toNat v2)), x1)) fun v3 => (m2 v2 (x0.aA.length : Int) (call (Z68.R (x1, (lA x0.aA (Int.toNat v2)))) fun v4 => (cond v3 (cond v4 (ret (2 : Int)) (cond v3 (ret (3 : Int)) (cond v4 (ret (4 : Int)) (ret (5 : Int))))) (cond v3 (ret (3 : Int)) (cond v4 (ret (4 : Int)) (ret (5 : Int))))))))))))))
def md (a0 : ah) (a1 : List aa) : Int := (cond (!(Z64.md a1)) (6 : Int) (cond (decide ((Z66.md a0 (((a1.getD 0 aa.zero).ae).aT)) < 0)) (1 : Int) (cond (Z68.md (a0.aA.getD (Int.toNat (Z66.md a0 (((a1.getD 0 aa.zero).ae).aT))) []) a1) (cond (Z68.md a1 (a0.aA.getD (Int.toNat (Z66.md a0 (((a1.getD 0 aa.zero).ae).aT))) [])) (2 : Int) (cond (Z68.md (a0.aA.getD (Int.toNat (Z66.md a0 (((a1.getD 0 aa.zero).ae).aT))) []) a1) (3 : Int) (cond (Z68.md a1 (a0.aA.getD (Int.toNat (Z66.md a0 (((a1.getD 0 aa.zero).ae).aT))) [])) (4 : Int) (5 : Int)))) (cond (Z68.md (a0.aA.getD (Int.toNat (Z66.md a0 (((a1.getD 0 aa.zero).ae).aT))) []) a1) (3 : Int) (cond (Z68.md a1 (a0.aA.getD (Int.toNat (Z66.md a0 (((a1.getD 0 aa.zero).ae).aT))) [])) (4 : Int) (5 : Int))))))
def gd (a0 : ah) (a1 : List aa) : Prop := (ah.Sm (2 ^ 21) a0) ∧ (bw (2 ^ 21) (fun y : aa => aa.Sm (2 ^ 21) y) a1)
def R := RR (p2 gd) (u2 md)
theorem ai {a0 a1} (h : gd a0 a1) : R ((ah.r a0), (a1.map aa.row)) = some (md a0 a1) := aE (a := (a0, a1)) h
def aK := CN [.agg rh, pL 202] oI RT.dec R
theorem okF (a0) (a1) (hg : gd a0 a1) : F (ah.r a0) (a1.map aa.row) = ret (md a0 a1) := by
  obtain ⟨H0, H1⟩ := hg
  unfold F md
  try simp only [SS]
  refine ct (Z64.ai H1) ?_
  refine ak ret (fun _ => rfl) (fun c1 => ?_)
  have dc1 := c1
  try simp only [DC] at dc1
  try have tc1 := Z64.tr (by simpa using c1)
  refine af (have := (H1).1; dt) ?_
  refine ct (Z66.ai H0) ?_
  have fv2_ := Z66.fa a0 (((a1.getD 0 aa.zero).ae).aT)
  refine ak ret (fun _ => rfl) (fun c2 => ?_)
  have dc2 := c2
  try simp only [DC] at dc2
  refine af dt ?_
  refine af (have := (H0.1).1; dt) ?_
  refine ct (Z68.ai ⟨(bw.getD (z := []) H0.1 (by first | assumption | omega | (simp (disch := omega) only [wi]; omega) | (simp; omega))), H1⟩) ?_
  refine af dt ?_
  refine af (have := (H0.1).1; dt) ?_
  refine ct (Z68.ai ⟨H1, (bw.getD (z := []) H0.1 (by first | assumption | omega | (simp (disch := omega) only [wi]; omega) | (simp; omega)))⟩) ?_
  refine ak ret (fun c3 => ?_) (fun c3 => ?_)
  · refine ak ret (fun _ => rfl) (fun c4 => ?_)
    refine ak ret (fun _ => rfl) (fun c5 => ?_)
    refine ak ret (fun _ => rfl) (fun _ => rfl)
  · refine ak ret (fun _ => rfl) (fun c7 => ?_)
    refine ak ret (fun _ => rfl) (fun _ => rfl)
theorem ab : Valid Tryz.prog Ev 136 aK := W2 43 F mix au okF (.cons Z64.ab (.cons Z66.ab (.cons Z68.ab .nil))) Tryz.func136
theorem fa (a0 : ah) (a1 : List aa) : (md a0 a1 = 3 → 1 ≤ a1.length ∧ 0 ≤ Z66.md a0 (a1.getD 0 aa.zero).ae.aT) ∧ (md a0 a1 = 5 → 1 ≤ a1.length ∧ 0 ≤ Z66.md a0 (a1.getD 0 aa.zero).ae.aT) := by
  unfold md
  cases h : Z64.md a1
  · exact ⟨fun h => by simp at h, fun h => by simp at h⟩
  · have t := Z64.tr h
    cases hf : decide (Z66.md a0 ((a1.getD 0 aa.zero).ae.aT) < 0)
    · have := of_decide_eq_false hf
      exact ⟨fun _ => ⟨t.1, by omega⟩, fun _ => ⟨t.1, by omega⟩⟩
    · exact ⟨fun h => by simp at h, fun h => by simp at h⟩
end Z69
namespace Z70
inductive Pt where
 | p0 (a : List (List L)) (b : List (List L)) (c : Int) (d : Int) (e : Int) (f : Int) (g : Int) (h : Int) (i : Int) (j : Int) (k : Int) (l : Int) (m : Int) (n : Int) (o : Int) (p : Bool) (q : Int) (s : Int) (t : Int) (u : Int) (v : Int) (w : Int) (y : Int) (z : Int) (w24 : Int) (w25 : Int) (w26 : Int) (w27 : Int) (w28 : Bool) (w29 : Int) (w30 : Int) (w31 : Int) (w32 : Int) (w33 : Int) (w34 : Int) (w35 : Int) (w36 : Int) (w37 : Int) (w38 : Int) (w39 : Int) (w40 : Int) (w41 : Bool)
def pid : Pt → Nat
 | .p0 .. => 4
def bR : Pt → List V
 | .p0 a b c d e f g h i j k l m n o p q s t u v w y z w24 w25 w26 w27 w28 w29 w30 w31 w32 w33 w34 w35 w36 w37 w38 w39 w40 w41 => [.sl none 202 a, .sl none 202 b, .cC 0 0, .int .i64 c]
def bQ : Pt → List aI
 | .p0 a b c d e f g h i j k l m n o p q s t u v w y z w24 w25 w26 w27 w28 w29 w30 w31 w32 w33 w34 w35 w36 w37 w38 w39 w40 w41 => [.box [.int .i64 d, .int .i64 e, .int .i64 f, .int .i64 g, .int .i64 h, .int .i64 i, .int .i64 j, .int .i64 k, .nil, .int .i64 l, .nil, .int .i64 m, .int .i64 n, .nil, .int .i64 o, .bool p, .nil, .int .i64 q, .int .i64 s, .int .i64 t, .int .i64 u, .int .i64 v, .int .i64 w, .int .i64 y, .int .i64 z, .nil, .int .i64 w24, .nil, .int .i64 w25, .int .i64 w26, .nil, .int .i64 w27, .bool w28, .nil, .int .i64 w29, .int .i64 w30, .int .i64 w31, .int .i64 w32, .int .i64 w33, .int .i64 w34, .int .i64 w35, .int .i64 w36, .nil, .int .i64 w37, .nil, .int .i64 w38, .int .i64 w39, .nil, .int .i64 w40, .bool w41, .nil]]
def step (J : Pt → ay) : Pt → ay
 | .p0 a b c d e f g h i j k l m n o p q s t u v w y z w24 w25 w26 w27 w28 w29 w30 w31 w32 w33 w34 w35 w36 w37 w38 w39 w40 w41 => (cond (decide (c < (a.length : Int))) (cond (decide (c < (b.length : Int))) (m2 c (a.length : Int) (m2 c (b.length : Int) (call (Z67.R ((aC.at a (Int.toNat c)).ae, (aC.at b (Int.toNat c)).ae)) fun v1 => (cond v1 (J (.p0 a b (i64.wrap (c + 1)) d e f g h i j k l m n o p q s t u v w y z w24 w25 w26 w27 w28 w29 w30 w31 w32 w33 w34 w35 w36 w37 w38 w39 w40 w41)) (m2 c (a.length : Int) (call (Z35.R (aC.at a (Int.toNat c))) fun v2 => (m2 c (b.length : Int) (call (Z35.R (aC.at b (Int.toNat c))) fun v3 => (cond (decide (c > 0)) (bJ (decide ((0 : Int) ≤ (i64.wrap (c - 1)))) (bJ (decide ((i64.wrap (c - 1)) < (a.length : Int))) (call (Z35.R (aC.at a (Int.toNat (i64.wrap (c - 1))))) fun v4 => ret (((⟨v4, v2, v3⟩ : aZ), true) : aZ × Bool)))) (ret (((⟨(⟨(⟨0, 0, 0, 0, 0, 0, 0, 0, (⟨[], 0⟩ : aO), (⟨[], 0⟩ : aO), 0, (⟨[], 0⟩ : aO), false⟩ : bq), []⟩ : aC), v2, v3⟩ : aZ), true) : aZ × Bool))))))))))) (m2 c (a.length : Int) (call (Z35.R (aC.at a (Int.toNat c))) fun v5 => (m2 c (b.length : Int) (call (Z35.R (aC.at b (Int.toNat c))) fun v6 => (cond (decide (c > 0)) (bJ (decide ((0 : Int) ≤ (i64.wrap (c - 1)))) (bJ (decide ((i64.wrap (c - 1)) < (a.length : Int))) (call (Z35.R (aC.at a (Int.toNat (i64.wrap (c - 1))))) fun v7 => ret (((⟨v7, v5, v6⟩ : aZ), true) : aZ × Bool)))) (ret (((⟨(⟨(⟨0, 0, 0, 0, 0, 0, 0, 0, (⟨[], 0⟩ : aO), (⟨[], 0⟩ : aO), 0, (⟨[], 0⟩ : aO), false⟩ : bq), []⟩ : aC), v5, v6⟩ : aZ), true) : aZ × Bool)))))))) (m2 c (a.length : Int) (call (Z35.R (aC.at a (Int.toNat c))) fun v8 => (m2 c (b.length : Int) (call (Z35.R (aC.at b (Int.toNat c))) fun v9 => (cond (decide (c > 0)) (bJ (decide ((0 : Int) ≤ (i64.wrap (c - 1)))) (bJ (decide ((i64.wrap (c - 1)) < (a.length : Int))) (call (Z35.R (aC.at a (Int.toNat (i64.wrap (c - 1))))) fun v10 => ret (((⟨v10, v8, v9⟩ : aZ), true) : aZ × Bool)))) (ret (((⟨(⟨(⟨0, 0, 0, 0, 0, 0, 0, 0, (⟨[], 0⟩ : aO), (⟨[], 0⟩ : aO), 0, (⟨[], 0⟩ : aO), false⟩ : bq), []⟩ : aC), v8, v9⟩ : aZ), true) : aZ × Bool))))))))
def start (J : Pt → ay) (x0 : List (List L)) (x1 : List (List L)) : ay := (call (Z64.R x0) fun v1 => (cond (!v1) (ret (((⟨(⟨(⟨0, 0, 0, 0, 0, 0, 0, 0, (⟨[], 0⟩ : aO), (⟨[], 0⟩ : aO), 0, (⟨[], 0⟩ : aO), false⟩ : bq), []⟩ : aC), (⟨(⟨0, 0, 0, 0, 0, 0, 0, 0, (⟨[], 0⟩ : aO), (⟨[], 0⟩ : aO), 0, (⟨[], 0⟩ : aO), false⟩ : bq), []⟩ : aC), (⟨(⟨0, 0, 0, 0, 0, 0, 0, 0, (⟨[], 0⟩ : aO), (⟨[], 0⟩ : aO), 0, (⟨[], 0⟩ : aO), false⟩ : bq), []⟩ : aC)⟩ : aZ), false) : aZ × Bool)) (call (Z64.R x1) fun v2 => (cond (!v2) (ret (((⟨(⟨(⟨0, 0, 0, 0, 0, 0, 0, 0, (⟨[], 0⟩ : aO), (⟨[], 0⟩ : aO), 0, (⟨[], 0⟩ : aO), false⟩ : bq), []⟩ : aC), (⟨(⟨0, 0, 0, 0, 0, 0, 0, 0, (⟨[], 0⟩ : aO), (⟨[], 0⟩ : aO), 0, (⟨[], 0⟩ : aO), false⟩ : bq), []⟩ : aC), (⟨(⟨0, 0, 0, 0, 0, 0, 0, 0, (⟨[], 0⟩ : aO), (⟨[], 0⟩ : aO), 0, (⟨[], 0⟩ : aO), false⟩ : bq), []⟩ : aC)⟩ : aZ), false) : aZ × Bool)) (bJ (decide ((0 : Int) < (x0.length : Int))) (bJ (decide ((0 : Int) < (x1.length : Int))) (cond ((aC.at x0 0).ae.aT != (aC.at x1 0).ae.aT) (ret (((⟨(⟨(⟨0, 0, 0, 0, 0, 0, 0, 0, (⟨[], 0⟩ : aO), (⟨[], 0⟩ : aO), 0, (⟨[], 0⟩ : aO), false⟩ : bq), []⟩ : aC), (⟨(⟨0, 0, 0, 0, 0, 0, 0, 0, (⟨[], 0⟩ : aO), (⟨[], 0⟩ : aO), 0, (⟨[], 0⟩ : aO), false⟩ : bq), []⟩ : aC), (⟨(⟨0, 0, 0, 0, 0, 0, 0, 0, (⟨[], 0⟩ : aO), (⟨[], 0⟩ : aO), 0, (⟨[], 0⟩ : aO), false⟩ : bq), []⟩ : aC)⟩ : aZ), false) : aZ × Bool)) (call (Z68.R (x0, x1)) fun v3 => (cond v3 (ret (((⟨(⟨(⟨0, 0, 0, 0, 0, 0, 0, 0, (⟨[], 0⟩ : aO), (⟨[], 0⟩ : aO), 0, (⟨[], 0⟩ : aO), false⟩ : bq), []⟩ : aC), (⟨(⟨0, 0, 0, 0, 0, 0, 0, 0, (⟨[], 0⟩ : aO), (⟨[], 0⟩ : aO), 0, (⟨[], 0⟩ : aO), false⟩ : bq), []⟩ : aC), (⟨(⟨0, 0, 0, 0, 0, 0, 0, 0, (⟨[], 0⟩ : aO), (⟨[], 0⟩ : aO), 0, (⟨[], 0⟩ : aO), false⟩ : bq), []⟩ : aC)⟩ : aZ), false) : aZ × Bool)) (call (Z68.R (x1, x0)) fun v4 => (cond v4 (ret (((⟨(⟨(⟨0, 0, 0, 0, 0, 0, 0, 0, (⟨[], 0⟩ : aO), (⟨[], 0⟩ : aO), 0, (⟨[], 0⟩ : aO), false⟩ : bq), []⟩ : aC), (⟨(⟨0, 0, 0, 0, 0, 0, 0, 0, (⟨[], 0⟩ : aO), (⟨[], 0⟩ : aO), 0, (⟨[], 0⟩ : aO), false⟩ : bq), []⟩ : aC), (⟨(⟨0, 0, 0, 0, 0, 0, 0, 0, (⟨[], 0⟩ : aO), (⟨[], 0⟩ : aO), 0, (⟨[], 0⟩ : aO), false⟩ : bq), []⟩ : aC)⟩ : aZ), false) : aZ × Bool)) (J (.p0 x0 x1 0 0 0 0 0 0 0 0 0 0 0 0 0 false 0 0 0 0 0 0 0 0 0 0 0 0 false 0 0 0 0 0 0 0 0 0 0 0 0 false)))))))))))))
def live : Nat → Live := fun i => match i with | 4 => [(0, none), (1, none), (4, none), (6, none)] | _ => []
def pt (a b : List (List L)) (c : Int) : Pt := Pt.p0 a b c 0 0 0 0 0 0 0 0 0 0 0 0 false 0 0 0 0 0 0 0 0 0 0 0 0 false 0 0 0 0 0 0 0 0 0 0 0 0 false
def fk : List aa → List aa → Nat
 | x :: xs, y :: ys => bif Z67.md x.ae y.ae then fk xs ys + 1 else 0
 | _, _ => 0
theorem mE : ∀ a b : List aa, (∀ i, i < fk a b → Z67.md (a.getD i aa.zero).ae (b.getD i aa.zero).ae = true) ∧
    ((fk a b < a.length ∧ fk a b < b.length ∧ Z67.md (a.getD (fk a b) aa.zero).ae (b.getD (fk a b) aa.zero).ae = false) ∨
     (a.length ≤ b.length ∧ ∀ i, i < a.length → Z67.md (a.getD i aa.zero).ae (b.getD i aa.zero).ae = true) ∨
     (b.length ≤ a.length ∧ ∀ i, i < b.length → Z67.md (a.getD i aa.zero).ae (b.getD i aa.zero).ae = true))
  | [], b => ⟨fun i hi => by simp [fk] at hi, .inr (.inl ⟨Nat.zero_le _, fun i hi => by simp at hi⟩)⟩
  | x :: xs, [] => ⟨fun i hi => by simp [fk] at hi, .inr (.inr ⟨Nat.zero_le _, fun i hi => by simp at hi⟩)⟩
  | x :: xs, y :: ys => by
    obtain ⟨h1, h2⟩ := mE xs ys
    cases h : Z67.md x.ae y.ae
    · have e : fk (x :: xs) (y :: ys) = 0 := by simp [fk, h]
      rw [e]
      exact ⟨fun i hi => by omega, .inl ⟨by simp, by simp, h⟩⟩
    · have e : fk (x :: xs) (y :: ys) = fk xs ys + 1 := by simp [fk, h]
      rw [e]
      have up : ∀ {m : Nat}, (∀ i, i < m → Z67.md (xs.getD i aa.zero).ae (ys.getD i aa.zero).ae = true) → ∀ i, i < m + 1 → Z67.md ((x :: xs).getD i aa.zero).ae ((y :: ys).getD i aa.zero).ae = true := by
        intro m hm i hi
        cases i with
        | zero => exact h
        | succ i => exact hm i (by omega)
      refine ⟨up h1, ?_⟩
      rcases h2 with ⟨a, b, c⟩ | ⟨a, b⟩ | ⟨a, b⟩
      · exact .inl ⟨by simpa using a, by simpa using b, c⟩
      · exact .inr (.inl ⟨by simpa using a, up b⟩)
      · exact .inr (.inr ⟨by simpa using a, up b⟩)
theorem tG {a b : List aa} (hl : a.length ≤ b.length) (h : ∀ i, i < a.length → Z67.md (a.getD i aa.zero).ae (b.getD i aa.zero).ae = true) : Z68.md a b = true := by
  unfold Z68.md
  rw [decide_eq_false (by omega), cond_false]
  refine (gP (fun i => Z67.md (a.getD i aa.zero).ae (b.getD i aa.zero).ae = true) (fun i _ hi => ?_) (fun i _ hi => ?_)).2 ⟨h, rfl⟩
  · simp only [hi, Bool.not_true, cond_false]
  · rw [Bool.not_eq_true] at hi
    simp only [hi, Bool.not_false, cond_true]
theorem eq_comm {a b : aq} (h : Z67.md a b = true) : Z67.md b a = true := by
 rw [Z67.cp, ca] at h ⊢
 exact h.symm
theorem jy {a b : List aa} (h1 : Z68.md a b = false) (h2 : Z68.md b a = false) : fk a b < a.length ∧ fk a b < b.length ∧ Z67.md (a.getD (fk a b) aa.zero).ae (b.getD (fk a b) aa.zero).ae = false := by
  rcases (mE a b).2 with h | ⟨h3, h4⟩ | ⟨h3, h4⟩
  · exact h
  · rw [tG h3 h4] at h1; cases h1
  · rw [tG h3 fun i hi => eq_comm (h4 i hi)] at h2; cases h2
def qL (a b : List aa) : Nat → ao
 | 0 => ⟨aa.zero, a.getD 0 aa.zero, b.getD 0 aa.zero⟩
 | k + 1 => ⟨a.getD k aa.zero, a.getD (k + 1) aa.zero, b.getD (k + 1) aa.zero⟩
theorem sj {a b : List aa} (h0 : bw (2 ^ 21) (fun y : aa => aa.Sm (2 ^ 21) y) a) (h1 : bw (2 ^ 21) (fun y : aa => aa.Sm (2 ^ 21) y) b) {k : Nat} (hk : k < a.length) (hk2 : k < b.length) : ao.Sm (2 ^ 21) (qL a b k) := by
 cases k with
 | zero => exact ⟨⟨⟨bw.nil, bw.nil, bw.nil⟩, bw.nil⟩, bw.getD h0 hk, bw.getD h1 hk2⟩
 | succ k => exact ⟨bw.getD h0 (by omega), bw.getD h0 hk, bw.getD h1 hk2⟩
theorem ve {a b : List aa} {k : Nat} (hk : k < a.length) (hk2 : k < b.length) : ao.size (qL a b k) ≤ 2 * di (fun y : aa => aa.size y) a + di (fun y : aa => aa.size y) b := by
 have h1 := kV (f := fun y : aa => aa.size y) (xs := b) (i := k) (z := aa.zero) hk2
 have h2 := kV (f := fun y : aa => aa.size y) (xs := a) (i := k) (z := aa.zero) hk
 have h0 : aa.size aa.zero = 0 := rfl
 cases k with
 | zero => simp only [qL, ao.size]; omega
 | succ k =>
  have h3 := kV (f := fun y : aa => aa.size y) (xs := a) (i := k) (z := aa.zero) (by omega)
  simp only [qL, ao.size]; omega
def md (a0 : List aa) (a1 : List aa) : ao × Bool := (cond (!(Z64.md a0)) (ao.zero, false) (cond (!(Z64.md a1)) (ao.zero, false) (cond (((a0.getD 0 aa.zero).ae).aT != ((a1.getD 0 aa.zero).ae).aT) (ao.zero, false) (cond (Z68.md a0 a1) (ao.zero, false) (cond (Z68.md a1 a0) (ao.zero, false) (qL a0 a1 (fk a0 a1), true))))))
def gd (a0 : List aa) (a1 : List aa) : Prop := bw (2 ^ 21) (fun y : aa => aa.Sm (2 ^ 21) y) a0 ∧ bw (2 ^ 21) (fun y : aa => aa.Sm (2 ^ 21) y) a1
def R := RR (p2 gd) (u2 md)
theorem ai {a0 a1} (h : gd a0 a1) : R ((a0.map aa.row), (a1.map aa.row)) = some ((ao.r (md a0 a1).1), (md a0 a1).2) := aE (a := (a0, a1)) h
def aK := CN [pL 202, pL 202] (.iw [(true, f204), (false, [fB])]) RT.dec R
theorem okF (a0) (a1) (hg : gd a0 a1) : ∃ n, start (iter step n) (a0.map aa.row) (a1.map aa.row) = ret ((ao.r (md a0 a1).1), (md a0 a1).2) := by
  unfold gd at hg
  obtain ⟨H0, H1⟩ := hg
  have hl0 := H0.1
  have hl1 := H1.1
  have key : fk a0 a1 < a0.length → fk a0 a1 < a1.length → Z67.md (a0.getD (fk a0 a1) aa.zero).ae (a1.getD (fk a0 a1) aa.zero).ae = false → ∀ d k, k + d = fk a0 a1 → ∃ n, iter step n (pt (a0.map aa.row) (a1.map aa.row) (k : Int)) = ret ((ao.r (qL a0 a1 (fk a0 a1)), true) : aZ × Bool) := by
    intro hn0 hn1 hne d
    have hR : ∀ k, k < a0.length → k < a1.length → Z67.R (aq.r (a0.getD k aa.zero).ae, aq.r (a1.getD k aa.zero).ae) = some (Z67.md (a0.getD k aa.zero).ae (a1.getD k aa.zero).ae) := by
      intro k h0 h1
      rw [Z67.ai ⟨(bw.getD (z := aa.zero) H0 h0).1, (bw.getD (z := aa.zero) H1 h1).1⟩]
    induction d with
    | zero =>
      intro k hk
      obtain rfl : k = fk a0 a1 := by omega
      generalize hkk : fk a0 a1 = k at hn0 hn1 hne ⊢
      refine ⟨1, ?_⟩
      show step (iter step 0) _ = _
      have q1 : (0 : Int) ≤ (k : Int) := by omega
      have q2 : (k : Int) < (a0.length : Int) := by omega
      have q3 : (k : Int) < (a1.length : Int) := by omega
      simp only [pt, step, MM, S0, aa.rs, aq.rs, q1, q2, q3, decide_true, cond_true]
      rw [ba (hR k hn0 hn1), hne, cond_false, ba (Z35.ai (a0 := a0.getD k aa.zero) (bw.getD (z := aa.zero) H0 hn0)), ba (Z35.ai (a0 := a1.getD k aa.zero) (bw.getD (z := aa.zero) H1 hn1))]
      cases k with
      | zero => rfl
      | succ k =>
        have q4 : ((k + 1 : Nat) : Int) > 0 := by omega
        have q5 : i64.wrap (((k + 1 : Nat) : Int) - 1) = (k : Int) := by rw [wi _ (by omega)]; omega
        have q6 : (0 : Int) ≤ (k : Int) := by omega
        have q7 : (k : Int) < (a0.length : Int) := by omega
        simp only [q4, q5, q6, q7, decide_true, cond_true, S0, aa.rs]
        rw [ba (Z35.ai (a0 := a0.getD k aa.zero) (bw.getD (z := aa.zero) H0 (by omega)))]
        rfl
    | succ d ih =>
      intro k hk
      obtain ⟨n, hn⟩ := ih (k + 1) (by omega)
      refine ⟨n + 1, ?_⟩
      show step (iter step n) _ = _
      have q1 : (0 : Int) ≤ (k : Int) := by omega
      have q2 : (k : Int) < (a0.length : Int) := by omega
      have q3 : (k : Int) < (a1.length : Int) := by omega
      simp only [pt, step, MM, S0, aa.rs, aq.rs, q1, q2, q3, decide_true, cond_true]
      rw [ba (hR k (by omega) (by omega)), (mE a0 a1).1 k (by omega), cond_true, wi _ (by omega)]
      exact hn
  unfold start md
  simp only [S0, aa.rs, aq.rs]
  refine dF (Z64.md a0) (Z64.ai H0) ?_
  cases hc0 : Z64.md a0
  · exact ⟨0, rfl⟩
  simp only [Bool.not_true, cond_false]
  refine dF (Z64.md a1) (Z64.ai H1) ?_
  cases hc1 : Z64.md a1
  · exact ⟨0, rfl⟩
  have t0 := Z64.tr hc0
  have t1 := Z64.tr hc1
  simp only [Bool.not_true, cond_false]
  refine eR (decide_eq_true (by omega)) (eR (decide_eq_true (by omega)) ?_)
  cases ((a0.getD 0 aa.zero).ae.aT != (a1.getD 0 aa.zero).ae.aT)
  case true => exact ⟨0, rfl⟩
  simp only [cond_false]
  refine dF (Z68.md a0 a1) (Z68.ai ⟨H0, H1⟩) ?_
  cases hp0 : Z68.md a0 a1
  case true => exact ⟨0, rfl⟩
  simp only [cond_false]
  refine dF (Z68.md a1 a0) (Z68.ai ⟨H1, H0⟩) ?_
  cases hp1 : Z68.md a1 a0
  case true => exact ⟨0, rfl⟩
  simp only [cond_false]
  obtain ⟨h1, h2, h3⟩ := jy hp0 hp1
  exact key h1 h2 h3 (fk a0 a1) 0 (by omega)
theorem ab : Valid Tryz.prog Ev 138 aK := L2 86 pid bR bQ live step start mix au okF (.cons Z64.ab (.cons Z68.ab (.cons Z67.ab (.cons Z35.ab .nil)))) Tryz.func138
theorem gS {a0 : List aa} {a1 : List aa} (hg : gd a0 a1) : ao.Sm (2 ^ 21) ((md a0 a1).1) := by
  unfold gd at hg; unfold md
  have z : ao.Sm (2 ^ 21) ao.zero := ⟨⟨⟨bw.nil, bw.nil, bw.nil⟩, bw.nil⟩, ⟨⟨bw.nil, bw.nil, bw.nil⟩, bw.nil⟩, ⟨⟨bw.nil, bw.nil, bw.nil⟩, bw.nil⟩⟩
  cases Z64.md a0
  · exact z
  cases Z64.md a1
  · exact z
  cases ((a0.getD 0 aa.zero).ae.aT != (a1.getD 0 aa.zero).ae.aT)
  case true => exact z
  cases h1 : Z68.md a0 a1
  case true => exact z
  cases h2 : Z68.md a1 a0
  case true => exact z
  obtain ⟨h3, h4, _⟩ := Z70.jy h1 h2
  exact Z70.sj hg.1 hg.2 h3 h4
end Z70
namespace Z71
def F (x0 : aW) (x1 : List (List L)) : ay := (call (Z38.R x0) fun v1 => (call (Z69.R (x0, x1)) fun v2 => (cond (v2 == 1) (cond (decide ((x0.aA.length : Int) ≥ 8)) (ret ((v1, 6) : aW × Int)) (call (Z36.R x1) fun v3 => (bJ (dU (((v1.aA.length : Int) + 1) * 24)) (ret (((⟨(v1.aA ++ [[L.sl v3]]), v1.aR⟩ : aW), v2) : aW × Int))))) (cond (v2 == 3) (bJ (decide ((0 : Int) < (x1.length : Int))) (call (Z66.R (x0, (aC.at x1 0).ae.aT)) fun v4 => (call (Z36.R x1) fun v5 => (m2 v4 (v1.aA.length : Int) (ret (((⟨(List.set v1.aA (Int.toNat v4) [L.sl v5]), v1.aR⟩ : aW), v2) : aW × Int)))))) (cond (v2 == 5) (bJ (decide ((0 : Int) < (x1.length : Int))) (call (Z66.R (x0, (aC.at x1 0).ae.aT)) fun v6 => (m2 v6 (x0.aA.length : Int) (call (Z70.R ((lA x0.aA (Int.toNat v6)), x1)) fun v7 => (cond v7.2 (cond (decide ((x0.aR.length : Int) < 8)) (bJ (dU (((v1.aR.length : Int) + 1) * 600)) (ret (((⟨v1.aA, (v1.aR ++ [(aZ.enc v7.1)])⟩ : aW), v2) : aW × Int))) (ret ((v1, v2) : aW × Int))) (ret ((v1, v2) : aW × Int))))))) (ret ((v1, v2) : aW × Int)))))))
def md (a0 : ah) (a1 : List aa) : ah × Int := (cond ((Z69.md a0 a1) == 1) (cond (decide ((a0.aA.length : Int) ≥ 8)) (a0, 6) ((⟨(a0.aA ++ [a1]), a0.aR⟩ : ah), (Z69.md a0 a1))) (cond ((Z69.md a0 a1) == 3) ((⟨(List.set a0.aA (Int.toNat (Z66.md a0 (((a1.getD 0 aa.zero).ae).aT))) a1), a0.aR⟩ : ah), (Z69.md a0 a1)) (cond ((Z69.md a0 a1) == 5) (cond ((Z70.md (a0.aA.getD (Int.toNat (Z66.md a0 (((a1.getD 0 aa.zero).ae).aT))) []) a1).2) (cond (decide ((a0.aR.length : Int) < 8)) ((⟨a0.aA, (a0.aR ++ [(Z70.md (a0.aA.getD (Int.toNat (Z66.md a0 (((a1.getD 0 aa.zero).ae).aT))) []) a1).1])⟩ : ah), (Z69.md a0 a1)) (a0, (Z69.md a0 a1))) (a0, (Z69.md a0 a1))) (a0, (Z69.md a0 a1)))))
def gd (a0 : ah) (a1 : List aa) : Prop := (ah.Sm (2 ^ 21) a0) ∧ (bw (2 ^ 21) (fun y : aa => aa.Sm (2 ^ 21) y) a1)
def R := RR (p2 gd) (u2 md)
theorem ai {a0 a1} (h : gd a0 a1) : R ((ah.r a0), (a1.map aa.row)) = some ((ah.r (md a0 a1).1), (md a0 a1).2) := aE (a := (a0, a1)) h
def aK := CN [.agg rh, pL 202] (.iw [(true, f32), (false, [fI])]) RT.dec R
theorem okF (a0) (a1) (hg : gd a0 a1) : F (ah.r a0) (a1.map aa.row) = ret ((ah.r (md a0 a1).1), (md a0 a1).2) := by
  obtain ⟨H0, H1⟩ := hg
  unfold F md
  try simp only [SS]
  refine ct (Z38.ai H0) ?_
  try simp only [SS]
  refine ct (Z69.ai ⟨H0, H1⟩) ?_
  have fv2_ := Z69.fa a0 a1
  refine ak (fun b : ah × Int => ret (((ah.r b.1), b.2) : aW × Int)) (fun c1 => ?_) (fun c1 => ?_)
  · have dc1 := c1
    try simp only [DC] at dc1
    refine ak (fun b : ah × Int => ret (((ah.r b.1), b.2) : aW × Int)) (fun c2 => ?_) (fun c2 => ?_)
    · all_goals exact fz
    · have dc2 := c2
      try simp only [DC] at dc2
      refine ct (Z36.ai H1) ?_
      try simp only [SS]
      refine af (have := (H0.1).1; lm) ?_
      all_goals exact fz
  · have dc1 := c1
    try simp only [DC] at dc1
    refine ak (fun b : ah × Int => ret (((ah.r b.1), b.2) : aW × Int)) (fun c3 => ?_) (fun c3 => ?_)
    · have dc3 := c3
      try simp only [DC] at dc3
      refine af (have := (H1).1; dt) ?_
      refine ct (Z66.ai H0) ?_
      have fv4_ := Z66.fa a0 (((a1.getD 0 aa.zero).ae).aT)
      refine ct (Z36.ai H1) ?_
      try simp only [SS]
      refine af dt ?_
      refine af (have := (H0.1).1; dt) ?_
      all_goals exact fz
    · have dc3 := c3
      try simp only [DC] at dc3
      refine ak (fun b : ah × Int => ret (((ah.r b.1), b.2) : aW × Int)) (fun c4 => ?_) (fun c4 => ?_)
      · have dc4 := c4
        try simp only [DC] at dc4
        refine af (have := (H1).1; dt) ?_
        refine ct (Z66.ai H0) ?_
        have fv6_ := Z66.fa a0 (((a1.getD 0 aa.zero).ae).aT)
        refine af dt ?_
        refine af (have := (H0.1).1; dt) ?_
        refine ct (Z70.ai ⟨(bw.getD (z := []) H0.1 (by first | assumption | omega | (simp (disch := omega) only [wi]; omega) | (simp; omega))), H1⟩) ?_
        try simp only [SS]
        refine ak (fun b : ah × Int => ret (((ah.r b.1), b.2) : aW × Int)) (fun c5 => ?_) (fun c5 => ?_)
        · refine ak (fun b : ah × Int => ret (((ah.r b.1), b.2) : aW × Int)) (fun c6 => ?_) (fun c6 => ?_)
          · have dc6 := c6
            try simp only [DC] at dc6
            refine af (have := (H0.2).1; lm) ?_
            all_goals exact fz
          · all_goals exact fz
        · all_goals exact fz
      · all_goals exact fz
theorem ab : Valid Tryz.prog Ev 70 aK := W2 77 F mix au okF (.cons Z38.ab (.cons Z69.ab (.cons Z36.ab (.cons Z66.ab (.cons Z70.ab .nil))))) Tryz.func70
theorem gS {a0 : ah} {a1 : List aa} (hg : gd a0 a1) : ah.Sm (2 ^ 21) ((md a0 a1).1) := by
 unfold gd at hg; unfold md
 obtain ⟨⟨h1, h2⟩, h3⟩ := hg
 simp only [Bool.cond_eq_ite]
 repeat' split
 all_goals (try simp only [decide_eq_true_eq, ge_iff_le] at *)
 all_goals first
  | exact ⟨h1, h2⟩
  | exact ⟨bw.app (a := 7) (b := 1) ⟨by omega, h1.2⟩ (bw.one h3) (by decide), h2⟩
  | exact ⟨bw.set h1 h3, h2⟩
  | exact ⟨h1, bw.app (a := 7) (b := 1) ⟨by omega, h2.2⟩ (bw.one (Z70.gS ⟨bw.wD h1 bw.nil, h3⟩)) (by decide)⟩
def Cz (c : List (List aa)) : Nat := di (fun y : List aa => di (fun y : aa => aa.size y) y) c
def Fz (c : List ao) : Nat := di (fun y : ao => ao.size y) c
theorem vj (X a1 : List aa) : ao.size (Z70.md X a1).1 ≤ 2 * di (fun y : aa => aa.size y) X + di (fun y : aa => aa.size y) a1 := by
  unfold Z70.md
  have z : ao.size ao.zero = 0 := rfl
  cases Z64.md X
  · exact Nat.zero_le _
  cases Z64.md a1
  · exact Nat.zero_le _
  cases ((X.getD 0 aa.zero).ae.aT != (a1.getD 0 aa.zero).ae.aT)
  case true => exact Nat.zero_le _
  cases h1 : Z68.md X a1
  case true => exact Nat.zero_le _
  cases h2 : Z68.md a1 X
  case true => exact Nat.zero_le _
  obtain ⟨h3, h4, _⟩ := Z70.jy h1 h2
  exact Z70.ve h3 h4
theorem grow (a0 : ah) (a1 : List aa) : Cz (md a0 a1).1.aA ≤ Cz a0.aA + (di (fun y : aa => aa.size y) a1 + 1) ∧
  Fz (md a0 a1).1.aR ≤ Fz a0.aR + (2 * Cz a0.aA + di (fun y : aa => aa.size y) a1 + 1) := by
 unfold md Cz Fz
 have hs := sh (f := fun y : List aa => di (fun y : aa => aa.size y) y) a0.aA (Int.toNat (Z66.md a0 ((a1.getD 0 aa.zero).ae.aT))) a1
 have ha := qu (f := fun y : List aa => di (fun y : aa => aa.size y) y) a0.aA a1
 have hk := qu (f := fun y : ao => ao.size y) a0.aR (Z70.md (a0.aA.getD (Int.toNat (Z66.md a0 ((a1.getD 0 aa.zero).ae.aT))) []) a1).1
 have hf1 := vj (a0.aA.getD (Int.toNat (Z66.md a0 ((a1.getD 0 aa.zero).ae.aT))) []) a1
 have hg1 := tV (f := fun y : List aa => di (fun y : aa => aa.size y) y) (xs := a0.aA) (i := Int.toNat (Z66.md a0 ((a1.getD 0 aa.zero).ae.aT))) (z := []) rfl
 (try simp only at hs); (try simp only at ha); (try simp only at hk); (try simp only at hg1)
 simp only [Bool.cond_eq_ite]
 repeat' split
 all_goals constructor <;> (try simp only) <;> omega
end Z71
namespace Z72
def F (x0 : bq) (x1 : Int) : ay := (call (Z39.R (x1, x0.bL, x0.bF)) fun v1 => ret (v1 : Bool))
def md (a0 : aq) (a1 : Int) : Bool := ((Z39.md a1 a0.bL a0.bF) : Bool)
def gd (a0 : aq) (a1 : Int) : Prop := True
def R := RR (p2 gd) (u2 md)
theorem ai {a0 a1} (h : gd a0 a1) : R ((aq.r a0), a1) = some (md a0 a1) := aE (a := (a0, a1)) h
def aK := CN [.agg eA, pI] oB RT.dec R
theorem okF (a0) (a1) (hg : gd a0 a1) : F (aq.r a0) a1 = ret (md a0 a1) := by
 unfold F md
 try simp only [SS]
 refine ct (Z39.ai trivial) ?_
 all_goals exact fz
theorem ab : Valid Tryz.prog Ev 139 aK := W2 11 F mix au okF (.cons Z39.ab .nil) Tryz.func139
end Z72
namespace Z73
inductive Pt where
 | p0 (a : List (List L)) (b : Int) (c : List (List L))
def pid : Pt → Nat
 | .p0 .. => 3
def bR : Pt → List V
 | .p0 a b c => [.sl none 5 a, .own 0, .int .i64 b]
def bQ : Pt → List aI
 | .p0 a b c => [.row 3 c]
def step (J : Pt → ay) : Pt → ay
 | .p0 a b c => (cond (decide (b < (a.length : Int))) (m2 b (a.length : Int) (bJ (dU (((c.length : Int) + 1) * 8)) (J (.p0 a (i64.wrap (b + 1)) (c ++ [[L.int (i64.wrap (iu a (Int.toNat b)))]]))))) (ret (c : List (List L))))
def start (J : Pt → ay) (x0 : List (List L)) : ay := J (.p0 x0 0 [[L.int (x0.length : Int)]])
def live : Nat → Live := fun i => match i with | 3 => [(0, none), (3, none), (4, none)] | _ => []
def md (a0 : List Int) : List Int := ([(a0.length : Int)] ++ a0.map (fun (y1 : Int) => (i64.wrap y1)))
def gd (a0 : List Int) : Prop := (bw (2 ^ 38) (fun y : Int => True) a0)
def R := RR gd md
theorem ai {a0} (h : gd a0) : R (a0.map aP) = some ((md a0).map aP) := aE (a := a0) h
def aK := CN [pL 5] (oL 3) RT.dec R
theorem okF (a0) (hg : gd a0) : ∃ n, start (iter step n) (a0.map aP) = ret ((md a0).map aP) := by
  unfold gd at hg
  have H0 := hg
  unfold start md
  try simp only [SS]
  have Bh2 : a0.length ≤ maxLen := (by
      have := (H0).1
      try simp only [maxLen] at *
      omega)
  refine dV (out := (fun b : List Int => ret ((b.map aP) : List (List L)))) (jJ (g := fun (y1 : Int) => (i64.wrap y1)) (z := 0) (t := fun (s3 : List Int) => s3) (s := [(a0.length : Int)])) ?_
  refine dk (p := Pt.p0 (a0.map aP) 0 ([(a0.length : Int)].map aP)) fz ?_
  refine bP (pt := fun (i1 : Nat) (s3 : List Int) => Pt.p0 (a0.map aP) (i1 : Int) (s3.map aP)) (s := ([(a0.length : Int)] : List Int)) (out := (fun b : List Int => ret ((b.map aP) : List (List L)))) (fun (i1 : Nat) (s3 : List Int) => s3.length ≤ [(a0.length : Int)].length + 1 * i1) (fun J i1 s3 h2 hih2 => ?_) (fun s3 hih2 => ?_) (by simp)
  · simp only [step, SS]
    have gr_ := hih2
    try simp only [LN] at gr_
    have := (H0).1
    have bb_ := Bh2
    simp only [maxLen] at bb_
    have := (H0).1
    refine aY.yes (by apply decide_eq_true; omega) ?_
    refine aY.yes ax ?_
    refine aY.yes (aD h2) ?_
    refine aY.yes lm ?_
    refine aY.inl (by
        have g_ := hih2
        try simp only [LN] at g_ ⊢
        first | omega | (simp; done) | (simp; omega)) ?_
    rw [az h2 Bh2]
    all_goals exact fz
  · simp only [step, SS]
    have gr_ := hih2
    try simp only [LN] at gr_
    have := (H0).1
    have := (H0).1
    refine dh (by apply decide_eq_false; omega) ?_
    refine ⟨0, ?_⟩
    all_goals exact fz
theorem ab : Valid Tryz.prog Ev 348 aK := L1 23 pid bR bQ live step start mix au okF .nil Tryz.func348
theorem len (a0 : List Int) : (md a0).length = 1 + a0.length := by simp [md]; omega
end Z73
namespace Z74
def F (x0 : ByteArray) : ay := (bJ (decide ((x0.size : Int) ≤ 140737488355328)) (call (Z73.R (fR x0)) fun v1 => ret (v1 : List (List L))))
def md (a0 : ByteArray) : List Int := (Z73.md (gu a0))
def gd (a0 : ByteArray) : Prop := (a0.size ≤ (2 ^ 21))
def R := RR gd md
theorem ai {a0} (h : gd a0) : R a0 = some ((md a0).map aP) := aE (a := a0) h
def aK := CN [pS] (oL 3) RT.dec R
theorem okF (a0) (hg : gd a0) : F a0 = ret ((md a0).map aP) := by
 unfold gd at hg
 have H0 := hg
 unfold F md
 try simp only [SS]
 refine af (have := H0; dt) ?_
 refine aN ((Z73.md (gu a0)).map aP) (rq (Z73.ai (a0 := (gu a0)) ⟨(have := fm a0; have := H0; om), fun _ _ => trivial⟩)) ?_
 try simp only [SS]
 all_goals exact fz
theorem ab : Valid Tryz.prog Ev 326 aK := W1 6 F mix au okF (.cons Z73.ab .nil) Tryz.func326
theorem len (a0 : ByteArray) : (md a0).length = 1 + a0.size := by simp [md, Z73.len, fm]
end Z74
namespace Z75
inductive Pt where
 | p0 (a : Int) (b : bA) (c : List (List L))
def pid : Pt → Nat
 | .p0 .. => 3
def bR : Pt → List V
 | .p0 a b c => [.cC 0 0, .own 1, .int .i64 a]
def bQ : Pt → List aI
 | .p0 a b c => [.box [.str b.aV, .int .i64 b.bg, .int .i64 b.bE, .sl none 9 b.aU], .row 3 c]
def step (J : Pt → ay) : Pt → ay
 | .p0 a b c => (cond (decide (a < (b.aU.length : Int))) (m2 a (b.aU.length : Int) (call (Z74.R (pc b.aU (Int.toNat a))) fun v1 => (bJ (dU (((c.length : Int) + (v1.length : Int)) * 8)) (J (.p0 (i64.wrap (a + 1)) b (c ++ v1)))))) (ret (c : List (List L))))
def start (J : Pt → ay) (x0 : bA) : ay := (call (Z74.R x0.aV) fun v1 => (bJ (dU (((v1.length : Int) + 3) * 8)) (J (.p0 0 x0 (v1 ++ [[L.int x0.bg], [L.int x0.bE], [L.int (x0.aU.length : Int)]])))))
def live : Nat → Live := fun i => match i with | 3 => [(1, none), (3, none), (4, none)] | _ => []
def md (a0 : aj) : List Int := (((Z74.md a0.aV) ++ [a0.bg, a0.bE, (a0.aU.length : Int)]) ++ a0.aU.flatMap (fun (y1 : ByteArray) => (Z74.md y1)))
def gd (a0 : aj) : Prop := (aj.Sm (2 ^ 21) a0)
def R := RR gd md
theorem ai {a0} (h : gd a0) : R (aj.r a0) = some ((md a0).map aP) := aE (a := a0) h
def aK := CN [.agg nM] (oL 3) RT.dec R
theorem okF (a0) (hg : gd a0) : ∃ n, start (iter step n) (aj.r a0) = ret ((md a0).map aP) := by
  unfold gd at hg
  have H0 := hg
  unfold start md
  try simp only [SS]
  refine cx (Z74.ai H0.1) ?_
  try simp only [SS]
  refine eR (have := Z74.len a0.aV; have := H0.1; lm) ?_
  have Bh2 : a0.aU.length ≤ maxLen := (by
      have := (H0.2).1
      try simp only [maxLen] at *
      omega)
  refine dV (out := (fun b : List Int => ret ((b.map aP) : List (List L)))) (nC (g := fun (y1 : ByteArray) => (Z74.md y1)) (z := ⟨#[]⟩) (t := fun (s3 : List Int) => s3) (s := ((Z74.md a0.aV) ++ [a0.bg, a0.bE, (a0.aU.length : Int)]))) ?_
  refine dk (p := Pt.p0 0 (aj.r a0) (((Z74.md a0.aV) ++ [a0.bg, a0.bE, (a0.aU.length : Int)]).map aP)) fz ?_
  refine bP (pt := fun (i1 : Nat) (s3 : List Int) => Pt.p0 (i1 : Int) (aj.r a0) (s3.map aP)) (s := (((Z74.md a0.aV) ++ [a0.bg, a0.bE, (a0.aU.length : Int)]) : List Int)) (out := (fun b : List Int => ret ((b.map aP) : List (List L)))) (fun (i1 : Nat) (s3 : List Int) => s3.length ≤ 4 + a0.aV.size + i1 * (2 ^ 21 + 1)) (fun J i1 s3 h2 hih2 => ?_) (fun s3 hih2 => ?_) (by
      have := (H0.2).1
      have := Z74.len a0.aV
      have := H0.1
      try simp only [LN]
      try simp
      try omega)
  · simp only [step, SS]
    have gr_ := hih2
    try simp only [LN] at gr_
    have := H0.1
    have bb_ := Bh2
    simp only [maxLen] at bb_
    have := (H0.2).1
    refine aY.yes (by apply decide_eq_true; omega) ?_
    refine aY.yes ax ?_
    refine aY.yes (aD h2) ?_
    refine cr (Z74.ai (bw.getD (z := ⟨#[]⟩) H0.2 h2)) ?_
    try simp only [SS]
    refine aY.yes (have := Z74.len (a0.aU.getD i1 ⟨#[]⟩); have := (bw.getD (z := ⟨#[]⟩) H0.2 h2); lm) ?_
    refine aY.inl (by
        have := Z74.len (a0.aU.getD i1 ⟨#[]⟩)
        have := (bw.getD (z := ⟨#[]⟩) H0.2 h2)
        have g_ := hih2
        try simp only [LN] at g_ ⊢
        first | omega | (simp; done) | (simp; omega)) ?_
    rw [az h2 Bh2]
    all_goals exact fz
  · simp only [step, SS]
    have gr_ := hih2
    try simp only [LN] at gr_
    have := H0.1
    have := (H0.2).1
    refine dh (by apply decide_eq_false; omega) ?_
    refine ⟨0, ?_⟩
    all_goals exact fz
theorem ab : Valid Tryz.prog Ev 281 aK := L1 33 pid bR bQ live step start mix au okF (.cons Z74.ab .nil) Tryz.func281
theorem gS {a0 : aj} (hg : gd a0) : bw (2 ^ 43 - 1) (fun y : Int => True) (md a0) := by
 unfold gd at hg
 refine ⟨?_, fun _ _ => trivial⟩
 unfold md
 have h1 := jE (xs := a0.aU) (g := fun y => Z74.md y) (n := 2 ^ 21 + 1) (fun x hx => by rw [Z74.len]; have := hg.2.2 x hx; omega)
 have h2 := hg.1
 have h3 := hg.2.1
 have h4 := Z74.len a0.aV
 simp only [List.length_append, List.length_cons, List.length_nil]
 omega
end Z75
namespace Z76
def F (x0 : bA) : ay := (call (Z75.R x0) fun v1 => (bJ (dU (((1 : Int) + (v1.length : Int)) * 8)) (call (Z45.R ([[L.int 227]] ++ v1)) fun v2 => ret (v2 : Int))))
def md (a0 : aj) : Int := ((Z45.md ([227] ++ (Z75.md a0))) : Int)
def gd (a0 : aj) : Prop := (aj.Sm (2 ^ 21) a0)
def R := RR gd md
theorem ai {a0} (h : gd a0) : R (aj.r a0) = some (md a0) := aE (a := a0) h
def aK := CN [.agg nM] oI RT.dec R
theorem okF (a0) (hg : gd a0) : F (aj.r a0) = ret (md a0) := by
 unfold gd at hg
 have H0 := hg
 unfold F md
 try simp only [SS]
 refine ct (Z75.ai H0) ?_
 try simp only [SS]
 refine af (have := ((Z75.gS (a0 := a0) H0)).1; lm) ?_
 refine aN (Z45.md ([227] ++ (Z75.md a0))) (rq (Z45.ai (a0 := ([227] ++ (Z75.md a0))) ⟨(have := ((Z75.gS (a0 := a0) H0)).1; om), fun _ _ => trivial⟩)) ?_
 all_goals exact fz
theorem ab : Valid Tryz.prog Ev 229 aK := W1 8 F mix au okF (.cons Z75.ab (.cons Z45.ab .nil)) Tryz.func229
end Z76
namespace Z77
def F (x0 : Int) (x1 : Int) : ay := (call (Z45.R [[L.int 229], [L.int x0], [L.int x1]]) fun v1 => ret (v1 : Int))
def md (a0 : Int) (a1 : Int) : Int := ((Z45.md [229, a0, a1]) : Int)
def gd (a0 : Int) (a1 : Int) : Prop := True
def R := RR (p2 gd) (u2 md)
theorem ai {a0 a1} (h : gd a0 a1) : R (a0, a1) = some (md a0 a1) := aE (a := (a0, a1)) h
def aK := CN [pI, pI] oI RT.dec R
theorem okF (a0) (a1) (hg : gd a0 a1) : F a0 a1 = ret (md a0 a1) := by
 unfold F md
 try simp only [SS]
 refine aN (Z45.md [229, a0, a1]) (rq (Z45.ai (a0 := [229, a0, a1]) ⟨(om), fun _ _ => trivial⟩)) ?_
 all_goals exact fz
theorem ab : Valid Tryz.prog Ev 279 aK := W2 9 F mix au okF (.cons Z45.ab .nil) Tryz.func279
end Z77
namespace Z78
inductive Pt where
 | p0 (a : Int) (b : Int) (c : Int) (d : List (List L)) (e : Int)
def pid : Pt → Nat
 | .p0 .. => 4
def bR : Pt → List V
 | .p0 a b c d e => [.int .i64 a, .int .i64 b, .int .i64 c, .sl none 3 d, .int .i64 e]
def bQ : Pt → List aI
 | .p0 a b c d e => []
def step (J : Pt → ay) : Pt → ay
 | .p0 a b c d e => (cond (decide (c > 1)) (cond ((Int.tmod b 2) == 1) (cond (decide (e ≥ (d.length : Int))) (ret ((0, false) : Int × Bool)) (cond ((Int.tmod b 2) == 1) (m2 e (d.length : Int) (call (Z77.R ((iu d (Int.toNat e)), a)) fun v1 => J (.p0 v1 (i64.wrap (Int.tdiv b 2)) (i64.wrap (Int.tdiv (i64.wrap (c + 1)) 2)) d (i64.wrap (e + 1))))) (m2 e (d.length : Int) (call (Z77.R (a, (iu d (Int.toNat e)))) fun v2 => J (.p0 v2 (i64.wrap (Int.tdiv b 2)) (i64.wrap (Int.tdiv (i64.wrap (c + 1)) 2)) d (i64.wrap (e + 1))))))) (cond (decide ((i64.wrap (b + 1)) < c)) (cond (decide (e ≥ (d.length : Int))) (ret ((0, false) : Int × Bool)) (cond ((Int.tmod b 2) == 1) (m2 e (d.length : Int) (call (Z77.R ((iu d (Int.toNat e)), a)) fun v3 => J (.p0 v3 (i64.wrap (Int.tdiv b 2)) (i64.wrap (Int.tdiv (i64.wrap (c + 1)) 2)) d (i64.wrap (e + 1))))) (m2 e (d.length : Int) (call (Z77.R (a, (iu d (Int.toNat e)))) fun v4 => J (.p0 v4 (i64.wrap (Int.tdiv b 2)) (i64.wrap (Int.tdiv (i64.wrap (c + 1)) 2)) d (i64.wrap (e + 1))))))) (J (.p0 a (i64.wrap (Int.tdiv b 2)) (i64.wrap (Int.tdiv (i64.wrap (c + 1)) 2)) d e)))) (cond (e != (d.length : Int)) (ret ((0, false) : Int × Bool)) (ret ((a, true) : Int × Bool))))
def start (J : Pt → ay) (x0 : Int) (x1 : Int) (x2 : Int) (x3 : List (List L)) : ay := (call (Z39.R (x2, 1, 12)) fun v1 => (cond (!v1) (ret ((0, false) : Int × Bool)) (call (Z39.R (x1, 0, (i64.wrap (x2 - 1)))) fun v2 => (cond (!v2) (ret ((0, false) : Int × Bool)) (J (.p0 x0 x1 x2 x3 0))))))
def live : Nat → Live := fun i => match i with | 4 => [(0, none), (1, none), (2, none), (3, none), (10, none)] | _ => []
def tf : Nat → Int → Int → Int → List Int → Int × Bool
 | 0, _, _, _, _ => (0, false)
 | k + 1, leaf, i, n, path =>
  if n > 1 then
   if i % 2 = 1 ∨ i + 1 < n then
    match path with
    | [] => (0, false)
    | p :: ps => tf k (if i % 2 = 1 then Z77.md p leaf else Z77.md leaf p) (i / 2) ((n + 1) / 2) ps
   else tf k leaf (i / 2) ((n + 1) / 2) path
  else if path.isEmpty then (leaf, true) else (0, false)
def md (a0 : Int) (a1 : Int) (a2 : Int) (a3 : List Int) : Int × Bool := (cond (!(Z39.md a2 1 12)) (0, false) (bif !(Z39.md a1 0 (i64.wrap (a2 - 1))) then (0, false) else tf 5 a0 a1 a2 a3))
def gd (a0 : Int) (a1 : Int) (a2 : Int) (a3 : List Int) : Prop := bw (2 ^ 38) (fun y : Int => True) a3
def R := RR (p4 gd) (u4 md)
theorem ai {a0 a1 a2 a3} (h : gd a0 a1 a2 a3) : R (a0, a1, a2, (a3.map aP)) = some ((md a0 a1 a2 a3).1, (md a0 a1 a2 a3).2) := aE (a := (a0, a1, a2, a3)) h
def aK := CN [pI, pI, pI, pL 3] (.iw [(false, [fI]), (false, [fB])]) RT.dec R
theorem okF (a0) (a1) (a2) (a3) (hg : gd a0 a1 a2 a3) : ∃ n, start (iter step n) a0 a1 a2 (a3.map aP) = ret ((md a0 a1 a2 a3).1, (md a0 a1 a2 a3).2) := by
  have tm : ∀ b : Int, 0 ≤ b → b ≤ 11 → Int.tmod b 2 = b % 2 := fun b h1 h2 => Int.tmod_eq_emod_of_nonneg h1
  have td : ∀ b : Int, 0 ≤ b → b ≤ 13 → i64.wrap (Int.tdiv b 2) = b / 2 := fun b h1 h2 => by
    rw [Int.tdiv_eq_ediv_of_nonneg h1, Go.IntWalk.i64_in _ (by omega)]
  have t1 : ∀ b : Int, 0 ≤ b → b ≤ 13 → i64.wrap (b + 1) = b + 1 := fun b h1 h2 => Go.IntWalk.i64_in _ (by omega)
  obtain ⟨H3, _⟩ := hg
  have key : ∀ (k : Nat) (leaf i n : Int) (u : Nat), 0 ≤ i → i < n → n ≤ 12 → n ≤ 2 ^ k → u ≤ a3.length → ∃ m, iter step m (Pt.p0 leaf i n (a3.map aP) (u : Int)) = ret ((tf (k + 1) leaf i n (a3.drop u)).1, (tf (k + 1) leaf i n (a3.drop u)).2) := by
    intro k
    induction k with
    | zero =>
      intro leaf i n u h1 h2 h3 h4 h5
      refine ⟨1, ?_⟩
      show step (iter step 0) (Pt.p0 _ _ _ _ _) = _
      have hn : n = 1 := by omega
      subst hn
      simp only [step, List.length_map]
      refine bZ (by decide) ?_
      unfold tf
      rw [if_neg (by omega)]
      by_cases hu : u = a3.length
      · rw [List.drop_eq_nil_of_le (by omega), show ((u : Int) != (a3.length : Int)) = false from bne_eq_false_iff_eq.2 (by omega)]; rfl
      · have hne : (a3.drop u).isEmpty = false := by
          rw [List.drop_eq_getElem_cons (by omega)]; rfl
        rw [hne, show ((u : Int) != (a3.length : Int)) = true from bne_iff_ne.2 (by omega)]; rfl
    | succ k ih =>
      intro leaf i n u h1 h2 h3 h4 h5
      have hk : n ≤ 2 * 2 ^ k := by rw [Int.pow_succ] at h4; omega
      unfold tf
      by_cases hn : n > 1
      · have e1 := tm i h1 (by omega)
        have e2 := td i h1 (by omega)
        have e3 := t1 n (by omega) (by omega)
        have e4 := td (n + 1) (by omega) (by omega)
        have e5 := t1 i h1 (by omega)
        rw [if_pos hn]
        by_cases hc : i % 2 = 1 ∨ i + 1 < n
        · rw [if_pos hc]
          by_cases hu : u = a3.length
          · refine ⟨1, ?_⟩
            show step (iter step 0) (Pt.p0 _ _ _ _ _) = _
            rw [List.drop_eq_nil_of_le (by omega)]
            simp only [step, List.length_map, e1, e5]
            refine af (decide_eq_true (by omega)) ?_
            by_cases hm : i % 2 = 1
            · rw [hm]
              exact af rfl (af (decide_eq_true (by omega)) rfl)
            · refine bZ (beq_eq_false_iff_ne.2 hm) (af (decide_eq_true (by omega)) (af (decide_eq_true (by omega)) rfl))
          · have hlt : u < a3.length := by omega
            rw [List.drop_eq_getElem_cons hlt]
            obtain ⟨m, hm⟩ := ih (if i % 2 = 1 then Z77.md a3[u] leaf else Z77.md leaf a3[u]) (i / 2) ((n + 1) / 2) (u + 1) (by omega) (by omega) (by omega) (by omega) (by omega)
            refine ⟨m + 1, ?_⟩
            show step (iter step m) (Pt.p0 _ _ _ _ _) = _
            have w : i64.wrap ((u : Int) + 1) = ((u + 1 : Nat) : Int) := by rw [Go.IntWalk.i64_in _ (by omega)]; omega
            simp only [step, List.length_map, e1, e2, e3, e4, e5, w, cg, gn, dx hlt]
            refine af (decide_eq_true (by omega)) ?_
            by_cases hp : i % 2 = 1
            · rw [if_pos hp] at hm
              rw [hp]
              refine af rfl (bZ (decide_eq_false (by omega)) (af rfl (af (decide_eq_true (by omega)) (af (decide_eq_true (by omega)) (aN _ (Z77.ai trivial) ?_)))))
              rw [if_pos rfl]
              exact hm
            · rw [if_neg hp] at hm
              have hb : (i % 2 == 1) = false := beq_eq_false_iff_ne.2 hp
              rw [hb]
              refine bZ rfl (af (decide_eq_true (by omega)) (bZ (decide_eq_false (by omega)) (bZ rfl (af (decide_eq_true (by omega)) (af (decide_eq_true (by omega)) (aN _ (Z77.ai trivial) ?_))))))
              rw [if_neg hp]
              exact hm
        · rw [if_neg hc]
          obtain ⟨m, hm⟩ := ih leaf (i / 2) ((n + 1) / 2) u (by omega) (by omega) (by omega) (by omega) h5
          refine ⟨m + 1, ?_⟩
          show step (iter step m) (Pt.p0 _ _ _ _ _) = _
          simp only [step, List.length_map, e1, e2, e3, e4, e5]
          have hb : (i % 2 == 1) = false := beq_eq_false_iff_ne.2 (by omega)
          rw [hb]
          exact af (decide_eq_true (by omega)) (bZ rfl (bZ (decide_eq_false (by omega)) hm))
      · refine ⟨1, ?_⟩
        show step (iter step 0) (Pt.p0 _ _ _ _ _) = _
        have hn1 : n = 1 := by omega
        subst hn1
        simp only [step, List.length_map]
        refine bZ (by decide) ?_
        rw [if_neg (by omega)]
        by_cases hu : u = a3.length
        · rw [List.drop_eq_nil_of_le (by omega), show ((u : Int) != (a3.length : Int)) = false from bne_eq_false_iff_eq.2 (by omega)]; rfl
        · have hne : (a3.drop u).isEmpty = false := by
            rw [List.drop_eq_getElem_cons (by omega)]; rfl
          rw [hne, show ((u : Int) != (a3.length : Int)) = true from bne_iff_ne.2 (by omega)]; rfl
  unfold start md
  refine dF (Z39.md a2 1 12) (Z39.ai trivial) ?_
  cases hc : Z39.md a2 1 12
  · exact ⟨0, rfl⟩
  simp only [Bool.not_true, cond_false]
  refine dF (Z39.md a1 0 (i64.wrap (a2 - 1))) (Z39.ai trivial) ?_
  cases hd : Z39.md a1 0 (i64.wrap (a2 - 1))
  · exact ⟨0, rfl⟩
  have i1 : 1 ≤ a2 ∧ a2 ≤ 12 := by simpa [Z39.md] using hc
  rw [Go.IntWalk.i64_in _ (by omega)] at hd
  have i2 : 0 ≤ a1 ∧ a1 ≤ a2 - 1 := by simpa [Z39.md] using hd
  exact key 4 a0 a1 a2 0 (by omega) (by omega) (by omega) (by omega) (by omega)
theorem ab : Valid Tryz.prog Ev 228 aK := L4 63 pid bR bQ live step start mix au okF (.cons Z39.ab (.cons Z77.ab .nil)) Tryz.func228
end Z78
namespace Z79
inductive Pt where
 | p0 (a : ByteArray) (b : Int)
def pid : Pt → Nat
 | .p0 .. => 4
def bR : Pt → List V
 | .p0 a b => [.str a, .int .i64 b]
def bQ : Pt → List aI
 | .p0 a b => []
def step (J : Pt → ay) : Pt → ay
 | .p0 a b => (cond (decide (b < (a.size : Int))) (m2 b (a.size : Int) (cond (decide ((db a (Int.toNat b)) < 97)) (m2 b (a.size : Int) (cond (decide ((db a (Int.toNat b)) < 48)) (m2 b (a.size : Int) (cond ((db a (Int.toNat b)) != 45) (ret (false : Bool)) (J (.p0 a (i64.wrap (b + 1)))))) (m2 b (a.size : Int) (cond (decide ((db a (Int.toNat b)) > 57)) (m2 b (a.size : Int) (cond ((db a (Int.toNat b)) != 45) (ret (false : Bool)) (J (.p0 a (i64.wrap (b + 1)))))) (J (.p0 a (i64.wrap (b + 1)))))))) (m2 b (a.size : Int) (cond (decide ((db a (Int.toNat b)) > 122)) (m2 b (a.size : Int) (cond (decide ((db a (Int.toNat b)) < 48)) (m2 b (a.size : Int) (cond ((db a (Int.toNat b)) != 45) (ret (false : Bool)) (J (.p0 a (i64.wrap (b + 1)))))) (m2 b (a.size : Int) (cond (decide ((db a (Int.toNat b)) > 57)) (m2 b (a.size : Int) (cond ((db a (Int.toNat b)) != 45) (ret (false : Bool)) (J (.p0 a (i64.wrap (b + 1)))))) (J (.p0 a (i64.wrap (b + 1)))))))) (J (.p0 a (i64.wrap (b + 1)))))))) (ret (true : Bool)))
def start (J : Pt → ay) (x0 : ByteArray) : ay := (call (Z39.R ((x0.size : Int), 1, 8)) fun v1 => (cond (!v1) (ret (false : Bool)) (bJ (decide ((0 : Int) < (x0.size : Int))) (cond ((db x0 0) == 45) (ret (false : Bool)) (bJ (decide ((0 : Int) ≤ (i64.wrap ((x0.size : Int) - 1)))) (bJ (decide ((i64.wrap ((x0.size : Int) - 1)) < (x0.size : Int))) (cond ((db x0 (Int.toNat (i64.wrap ((x0.size : Int) - 1)))) == 45) (ret (false : Bool)) (J (.p0 x0 0)))))))))
def live : Nat → Live := fun i => match i with | 4 => [(0, none), (3, none)] | _ => []
def md (a0 : ByteArray) : Bool := (bif (!(Z39.md (a0.size : Int) 1 8)) then (false : Bool) else (bif ((db a0 0) == 45) then (false : Bool) else (bif ((db a0 (Int.toNat (i64.wrap ((a0.size : Int) - 1)))) == 45) then (false : Bool) else (dc (S := Unit) (β := Bool) (fun (i4 : Nat) (s6 : Unit) => (cond (decide ((db a0 i4) < 97)) (cond (decide ((db a0 i4) < 48)) (cond ((db a0 i4) != 45) (.inr (false : Bool)) (.inl ())) (cond (decide ((db a0 i4) > 57)) (cond ((db a0 i4) != 45) (.inr (false : Bool)) (.inl ())) (.inl ()))) (cond (decide ((db a0 i4) > 122)) (cond (decide ((db a0 i4) < 48)) (cond ((db a0 i4) != 45) (.inr (false : Bool)) (.inl ())) (cond (decide ((db a0 i4) > 57)) (cond ((db a0 i4) != 45) (.inr (false : Bool)) (.inl ())) (.inl ()))) (.inl ())))) (fun (s6 : Unit) => (true : Bool)) a0.size 0 ()))))
def gd (a0 : ByteArray) : Prop := (a0.size ≤ (2 ^ 21))
def R := RR gd md
theorem ai {a0} (h : gd a0) : R a0 = some (md a0) := aE (a := a0) h
def aK := CN [pS] oB RT.dec R
theorem okF (a0) (hg : gd a0) : ∃ n, start (iter step n) a0 = ret (md a0) := by
  unfold gd at hg
  have H0 := hg
  unfold start md
  try simp only [SS]
  refine cx (Z39.ai trivial) ?_
  refine fw ret (fun _ => ⟨0, rfl⟩) (fun c1 => ?_)
  have dc1 := c1
  try simp only [DC] at dc1
  have Dc1 := c1
  try simp [Z39.md] at Dc1
  refine eR (have := H0; dt) ?_
  refine fw ret (fun _ => ⟨0, rfl⟩) (fun c2 => ?_)
  have dc2 := c2
  try simp only [DC] at dc2
  refine eR (have := H0; dt) ?_
  refine eR (have := H0; dt) ?_
  refine fw ret (fun _ => ⟨0, rfl⟩) (fun c3 => ?_)
  have dc3 := c3
  try simp only [DC] at dc3
  have Bh5 : a0.size ≤ maxLen := (by
      have := H0
      try simp only [maxLen] at *
      omega)
  refine dk (p := Pt.p0 a0 0) fz ?_
  refine bP (pt := fun (i4 : Nat) (s6 : Unit) => Pt.p0 a0 (i4 : Int)) (s := (() : Unit)) (out := ret) (fun _ _ => True) (fun J i4 s6 h5 hih5 => ?_) (fun s6 hih5 => ?_) trivial
  · simp only [step, SS]
    have bb_ := Bh5
    simp only [maxLen] at bb_
    have := H0
    refine aY.yes (by apply decide_eq_true; omega) ?_
    refine aY.yes ax ?_
    refine aY.yes (aD h5) ?_
    refine aY.bif (fun c7 => ?_) (fun c7 => ?_)
    · refine aY.yes ax ?_
      refine aY.yes (aD h5) ?_
      refine aY.bif (fun c8 => ?_) (fun c8 => ?_)
      · refine aY.yes ax ?_
        refine aY.yes (aD h5) ?_
        refine aY.bif (fun _ => aY.inr rfl) (fun c9 => ?_)
        refine aY.inl trivial ?_
        rw [az h5 Bh5]
        all_goals exact fz
      · refine aY.yes ax ?_
        refine aY.yes (aD h5) ?_
        refine aY.bif (fun c10 => ?_) (fun c10 => ?_)
        · refine aY.yes ax ?_
          refine aY.yes (aD h5) ?_
          refine aY.bif (fun _ => aY.inr rfl) (fun c11 => ?_)
          refine aY.inl trivial ?_
          rw [az h5 Bh5]
          all_goals exact fz
        · refine aY.inl trivial ?_
          rw [az h5 Bh5]
          all_goals exact fz
    · refine aY.yes ax ?_
      refine aY.yes (aD h5) ?_
      refine aY.bif (fun c12 => ?_) (fun c12 => ?_)
      · refine aY.yes ax ?_
        refine aY.yes (aD h5) ?_
        refine aY.bif (fun c13 => ?_) (fun c13 => ?_)
        · refine aY.yes ax ?_
          refine aY.yes (aD h5) ?_
          refine aY.bif (fun _ => aY.inr rfl) (fun c14 => ?_)
          refine aY.inl trivial ?_
          rw [az h5 Bh5]
          all_goals exact fz
        · refine aY.yes ax ?_
          refine aY.yes (aD h5) ?_
          refine aY.bif (fun c15 => ?_) (fun c15 => ?_)
          · refine aY.yes ax ?_
            refine aY.yes (aD h5) ?_
            refine aY.bif (fun _ => aY.inr rfl) (fun c16 => ?_)
            refine aY.inl trivial ?_
            rw [az h5 Bh5]
            all_goals exact fz
          · refine aY.inl trivial ?_
            rw [az h5 Bh5]
            all_goals exact fz
      · refine aY.inl trivial ?_
        rw [az h5 Bh5]
        all_goals exact fz
  · simp only [step, SS]
    have := H0
    refine dh (by apply decide_eq_false; omega) ?_
    refine ⟨0, ?_⟩
    all_goals exact fz
theorem ab : Valid Tryz.prog Ev 155 aK := L1 55 pid bR bQ live step start mix au okF (.cons Z39.ab .nil) Tryz.func155
end Z79
namespace Z80
inductive Pt where
 | p0 (a : List (List L)) (b : Int)
def pid : Pt → Nat
 | .p0 .. => 2
def bR : Pt → List V
 | .p0 a b => [.sl none 9 a, .int .i64 b]
def bQ : Pt → List aI
 | .p0 a b => []
def step (J : Pt → ay) : Pt → ay
 | .p0 a b => (cond (decide (b < (a.length : Int))) (m2 b (a.length : Int) (call (Z79.R (pc a (Int.toNat b))) fun v1 => (cond (!v1) (ret (false : Bool)) (J (.p0 a (i64.wrap (b + 1))))))) (call (Z39.R ((a.length : Int), 1, 4)) fun v2 => ret (v2 : Bool)))
def start (J : Pt → ay) (x0 : List (List L)) : ay := J (.p0 x0 0)
def live : Nat → Live := fun i => match i with | 2 => [(0, none), (3, none)] | _ => []
def md (a0 : List ByteArray) : Bool := (dG (S := Unit) (β := Bool) (fun (y1 : ByteArray) (s3 : Unit) => (cond (!(Z79.md y1)) (.inr (false : Bool)) (.inl ()))) (fun (s3 : Unit) => ((Z39.md (a0.length : Int) 1 4) : Bool)) a0 ())
def gd (a0 : List ByteArray) : Prop := (bw (2 ^ 21) (fun y : ByteArray => y.size ≤ (2 ^ 21)) a0)
def R := RR gd md
theorem ai {a0} (h : gd a0) : R (a0.map cu) = some (md a0) := aE (a := a0) h
def aK := CN [pL 9] oB RT.dec R
theorem okF (a0) (hg : gd a0) : ∃ n, start (iter step n) (a0.map cu) = ret (md a0) := by
  unfold gd at hg
  have H0 := hg
  unfold start md
  try simp only [SS]
  have Bh2 : a0.length ≤ maxLen := (by
      have := (H0).1
      try simp only [maxLen] at *
      omega)
  refine dV (out := ret) (dO (z := ⟨#[]⟩)) ?_
  refine dk (p := Pt.p0 (a0.map cu) 0) fz ?_
  refine bP (pt := fun (i1 : Nat) (s3 : Unit) => Pt.p0 (a0.map cu) (i1 : Int)) (s := (() : Unit)) (out := ret) (fun _ _ => True) (fun J i1 s3 h2 hih2 => ?_) (fun s3 hih2 => ?_) trivial
  · simp only [step, SS]
    have bb_ := Bh2
    simp only [maxLen] at bb_
    have := (H0).1
    refine aY.yes (by apply decide_eq_true; omega) ?_
    refine aY.yes ax ?_
    refine aY.yes (aD h2) ?_
    refine cr (Z79.ai (bw.getD (z := ⟨#[]⟩) H0 h2)) ?_
    refine aY.bif (fun _ => aY.inr rfl) (fun c4 => ?_)
    refine aY.inl trivial ?_
    rw [az h2 Bh2]
    all_goals exact fz
  · simp only [step, SS]
    have := (H0).1
    refine dh (by apply decide_eq_false; omega) ?_
    refine cx (Z39.ai trivial) ?_
    refine ⟨0, ?_⟩
    all_goals exact fz
theorem ab : Valid Tryz.prog Ev 92 aK := L1 19 pid bR bQ live step start mix au okF (.cons Z79.ab (.cons Z39.ab .nil)) Tryz.func92
end Z80
namespace Z81
def F (x0 : bA) : ay := (cond (x0.bg == 1) (call (Z79.R x0.aV) fun v1 => (cond v1 (call (Z39.R (x0.bE, 0, 999999)) fun v2 => (cond v2 (ret (((x0.aU.length : Int) == 0) : Bool)) (ret (false : Bool)))) (ret (false : Bool)))) (cond (x0.bg == 2) (call (Z79.R x0.aV) fun v3 => (cond v3 (call (Z39.R (x0.bE, 0, 2147483646)) fun v4 => (cond v4 (ret (((x0.aU.length : Int) == 0) : Bool)) (ret (false : Bool)))) (ret (false : Bool)))) (cond (x0.bg == 3) (call (Z79.R x0.aV) fun v5 => (cond v5 (call (Z39.R (x0.bE, 0, 2147483646)) fun v6 => (cond v6 (call (Z80.R x0.aU) fun v7 => ret (v7 : Bool)) (ret (false : Bool)))) (ret (false : Bool)))) (ret (false : Bool)))))
def md (a0 : aj) : Bool := (cond (a0.bg == 1) (cond (Z79.md a0.aV) (cond (Z39.md a0.bE 0 999999) (((a0.aU.length : Int) == 0) : Bool) (false : Bool)) (false : Bool)) (cond (a0.bg == 2) (cond (Z79.md a0.aV) (cond (Z39.md a0.bE 0 2147483646) (((a0.aU.length : Int) == 0) : Bool) (false : Bool)) (false : Bool)) (cond (a0.bg == 3) (cond (Z79.md a0.aV) (cond (Z39.md a0.bE 0 2147483646) ((Z80.md a0.aU) : Bool) (false : Bool)) (false : Bool)) (false : Bool))))
def gd (a0 : aj) : Prop := (aj.Sm (2 ^ 21) a0)
def R := RR gd md
theorem ai {a0} (h : gd a0) : R (aj.r a0) = some (md a0) := aE (a := a0) h
def aK := CN [.agg nM] oB RT.dec R
theorem okF (a0) (hg : gd a0) : F (aj.r a0) = ret (md a0) := by
  unfold gd at hg
  have H0 := hg
  unfold F md
  try simp only [SS]
  refine ak ret (fun c1 => ?_) (fun c1 => ?_)
  · refine ct (Z79.ai H0.1) ?_
    refine ak ret (fun c2 => ?_) (fun _ => rfl)
    refine ct (Z39.ai trivial) ?_
    refine ak ret (fun c3 => ?_) (fun _ => rfl)
    all_goals exact fz
  · refine ak ret (fun c4 => ?_) (fun c4 => ?_)
    · refine ct (Z79.ai H0.1) ?_
      refine ak ret (fun c5 => ?_) (fun _ => rfl)
      refine ct (Z39.ai trivial) ?_
      refine ak ret (fun c6 => ?_) (fun _ => rfl)
      all_goals exact fz
    · refine ak ret (fun c7 => ?_) (fun _ => rfl)
      refine ct (Z79.ai H0.1) ?_
      refine ak ret (fun c8 => ?_) (fun _ => rfl)
      refine ct (Z39.ai trivial) ?_
      refine ak ret (fun c9 => ?_) (fun _ => rfl)
      refine ct (Z80.ai H0.2) ?_
      all_goals exact fz
theorem ab : Valid Tryz.prog Ev 230 aK := W1 52 F mix au okF (.cons Z79.ab (.cons Z39.ab (.cons Z80.ab .nil))) Tryz.func230
end Z81
namespace Z82
def F (x0 : Int) (x1 : Int) : ay := (call (Z45.R [[L.int 231], [L.int x0], [L.int x1]]) fun v1 => ret (v1 : Int))
def md (a0 : Int) (a1 : Int) : Int := ((Z45.md [231, a0, a1]) : Int)
def gd (a0 : Int) (a1 : Int) : Prop := True
def R := RR (p2 gd) (u2 md)
theorem ai {a0 a1} (h : gd a0 a1) : R (a0, a1) = some (md a0 a1) := aE (a := (a0, a1)) h
def aK := CN [pI, pI] oI RT.dec R
theorem okF (a0) (a1) (hg : gd a0 a1) : F a0 a1 = ret (md a0 a1) := by
 unfold F md
 try simp only [SS]
 refine aN (Z45.md [231, a0, a1]) (rq (Z45.ai (a0 := [231, a0, a1]) ⟨(om), fun _ _ => trivial⟩)) ?_
 all_goals exact fz
theorem ab : Valid Tryz.prog Ev 231 aK := W2 9 F mix au okF (.cons Z45.ab .nil) Tryz.func231
end Z82
namespace Z83
def F (x0 : Int) (x1 : Int) (x2 : bA) (x3 : cn) : ay := (call (Z76.R x2) fun v1 => (call (Z78.R (v1, x3.cX, x1, x3.aU)) fun v2 => (call (Z81.R x2) fun v3 => (cond v3 (cond v2.2 (call (Z82.R (x1, v2.1)) fun v4 => ret ((v4 == x0) : Bool)) (ret (false : Bool))) (ret (false : Bool))))))
def md (a0 : Int) (a1 : Int) (a2 : aj) (a3 : aB) : Bool := (cond (Z81.md a2) (cond ((Z78.md (Z76.md a2) a3.cX a1 a3.aU).2) (((Z82.md a1 ((Z78.md (Z76.md a2) a3.cX a1 a3.aU).1)) == a0) : Bool) (false : Bool)) (false : Bool))
def gd (a0 : Int) (a1 : Int) (a2 : aj) (a3 : aB) : Prop := (aj.Sm (2 ^ 21) a2) ∧ (aB.Sm (2 ^ 21) a3)
def R := RR (p4 gd) (u4 md)
theorem ai {a0 a1 a2 a3} (h : gd a0 a1 a2 a3) : R (a0, a1, (aj.r a2), (aB.r a3)) = some (md a0 a1 a2 a3) := aE (a := (a0, a1, a2, a3)) h
def aK := CN [pI, pI, .agg nM, .agg mn] oB RT.dec R
theorem okF (a0) (a1) (a2) (a3) (hg : gd a0 a1 a2 a3) : F a0 a1 (aj.r a2) (aB.r a3) = ret (md a0 a1 a2 a3) := by
 obtain ⟨H2, H3⟩ := hg
 unfold F md
 try simp only [SS]
 refine ct (Z76.ai H2) ?_
 refine ct (Z78.ai (H3.mono (by decide) (fun x hx => trivial))) ?_
 refine ct (Z81.ai H2) ?_
 refine ak ret (fun c1 => ?_) (fun _ => rfl)
 refine ak ret (fun c2 => ?_) (fun _ => rfl)
 refine ct (Z82.ai trivial) ?_
 all_goals exact fz
theorem ab : Valid Tryz.prog Ev 187 aK := W4 34 F mix au okF (.cons Z76.ab (.cons Z78.ab (.cons Z81.ab (.cons Z82.ab .nil)))) Tryz.func187
end Z83
namespace Z84
inductive Pt where
 | p0 (a : List (List L)) (b : List (List L)) (c : Int)
def pid : Pt → Nat
 | .p0 .. => 4
def bR : Pt → List V
 | .p0 a b c => [.sl none 9 a, .sl none 9 b, .int .i64 c]
def bQ : Pt → List aI
 | .p0 a b c => []
def step (J : Pt → ay) : Pt → ay
 | .p0 a b c => (cond (decide (c < (a.length : Int))) (m2 c (a.length : Int) (m2 c (b.length : Int) (cond (!((pc a (Int.toNat c)) == (pc b (Int.toNat c)))) (ret (false : Bool)) (J (.p0 a b (i64.wrap (c + 1))))))) (ret (true : Bool)))
def start (J : Pt → ay) (x0 : List (List L)) (x1 : List (List L)) : ay := (cond ((x0.length : Int) != (x1.length : Int)) (ret (false : Bool)) (J (.p0 x0 x1 0)))
def live : Nat → Live := fun i => match i with | 4 => [(0, none), (1, none), (5, none)] | _ => []
def md (a0 : List ByteArray) (a1 : List ByteArray) : Bool := (bif ((a0.length : Int) != (a1.length : Int)) then (false : Bool) else (dc (S := Unit) (β := Bool) (fun (i2 : Nat) (s4 : Unit) => (cond (!((a0.getD i2 ⟨#[]⟩) == (a1.getD i2 ⟨#[]⟩))) (.inr (false : Bool)) (.inl ()))) (fun (s4 : Unit) => (true : Bool)) a0.length 0 ()))
def gd (a0 : List ByteArray) (a1 : List ByteArray) : Prop := (bw (2 ^ 21) (fun y : ByteArray => y.size ≤ (2 ^ 21)) a0) ∧ (bw (2 ^ 21) (fun y : ByteArray => y.size ≤ (2 ^ 21)) a1)
def R := RR (p2 gd) (u2 md)
theorem ai {a0 a1} (h : gd a0 a1) : R ((a0.map cu), (a1.map cu)) = some (md a0 a1) := aE (a := (a0, a1)) h
def aK := CN [pL 9, pL 9] oB RT.dec R
theorem okF (a0) (a1) (hg : gd a0 a1) : ∃ n, start (iter step n) (a0.map cu) (a1.map cu) = ret (md a0 a1) := by
  obtain ⟨H0, H1⟩ := hg
  unfold start md
  try simp only [SS]
  refine fw ret (fun _ => ⟨0, rfl⟩) (fun c1 => ?_)
  have dc1 := c1
  try simp only [DC] at dc1
  have Bh3 : a0.length ≤ maxLen := (by
      have := (H0).1
      try simp only [maxLen] at *
      omega)
  refine dk (p := Pt.p0 (a0.map cu) (a1.map cu) 0) fz ?_
  refine bP (pt := fun (i2 : Nat) (s4 : Unit) => Pt.p0 (a0.map cu) (a1.map cu) (i2 : Int)) (s := (() : Unit)) (out := ret) (fun _ _ => True) (fun J i2 s4 h3 hih3 => ?_) (fun s4 hih3 => ?_) trivial
  · simp only [step, SS]
    have bb_ := Bh3
    simp only [maxLen] at bb_
    have := (H0).1
    refine aY.yes (by apply decide_eq_true; omega) ?_
    refine aY.yes ax ?_
    refine aY.yes (aD h3) ?_
    refine aY.yes ax ?_
    refine aY.yes (have := (H1).1; dt) ?_
    refine aY.bif (fun _ => aY.inr rfl) (fun c5 => ?_)
    refine aY.inl trivial ?_
    rw [az h3 Bh3]
    all_goals exact fz
  · simp only [step, SS]
    have := (H0).1
    refine dh (by apply decide_eq_false; omega) ?_
    refine ⟨0, ?_⟩
    all_goals exact fz
theorem ab : Valid Tryz.prog Ev 282 aK := L2 26 pid bR bQ live step start mix au okF .nil Tryz.func282
theorem cp (a0 : List ByteArray) (a1 : List ByteArray) : md a0 a1 = cU a0 a1 := by
 unfold md
 refine iG (⟨#[]⟩) (fun i s h h2 => ?_) (fun s => rfl)
 simp only [bne, dL, bool_beq, dA]
 cases cU _ _ <;> rfl
end Z84
namespace Z85
def F (x0 : bA) (x1 : bA) : ay := (cond (x0.aV == x1.aV) (cond (x0.bg == x1.bg) (cond (x0.bE == x1.bE) (call (Z84.R (x0.aU, x1.aU)) fun v1 => ret (v1 : Bool)) (ret (false : Bool))) (ret (false : Bool))) (ret (false : Bool)))
def md (a0 : aj) (a1 : aj) : Bool := (cond (a0.aV == a1.aV) (cond (a0.bg == a1.bg) (cond (a0.bE == a1.bE) ((Z84.md a0.aU a1.aU) : Bool) (false : Bool)) (false : Bool)) (false : Bool))
def gd (a0 : aj) (a1 : aj) : Prop := (aj.Sm (2 ^ 21) a0) ∧ (aj.Sm (2 ^ 21) a1)
def R := RR (p2 gd) (u2 md)
theorem ai {a0 a1} (h : gd a0 a1) : R ((aj.r a0), (aj.r a1)) = some (md a0 a1) := aE (a := (a0, a1)) h
def aK := CN [.agg nM, .agg nM] oB RT.dec R
theorem okF (a0) (a1) (hg : gd a0 a1) : F (aj.r a0) (aj.r a1) = ret (md a0 a1) := by
 obtain ⟨H0, H1⟩ := hg
 unfold F md
 try simp only [SS]
 refine ak ret (fun c1 => ?_) (fun _ => rfl)
 refine ak ret (fun c2 => ?_) (fun _ => rfl)
 refine ak ret (fun c3 => ?_) (fun _ => rfl)
 refine ct (Z84.ai ⟨H0.2, H1.2⟩) ?_
 all_goals exact fz
theorem ab : Valid Tryz.prog Ev 232 aK := W2 31 F mix au okF (.cons Z84.ab .nil) Tryz.func232
theorem cp (a0 : aj) (a1 : aj) : md a0 a1 = cU a0 a1 := by
 unfold md
 cases a0; cases a1
 rw [Bool.eq_iff_iff]
 simp [ca, dA, aj.mk.injEq, Z84.cp]
 try (constructor <;> (intro h; simp_all))
end Z85
namespace Z86
def F (x0 : cn) (x1 : cn) : ay := (cond (x0.cX == x1.cX) (call (Z56.R (x0.aU, x1.aU)) fun v1 => ret (v1 : Bool)) (ret (false : Bool)))
def md (a0 : aB) (a1 : aB) : Bool := (cond (a0.cX == a1.cX) ((Z56.md a0.aU a1.aU) : Bool) (false : Bool))
def gd (a0 : aB) (a1 : aB) : Prop := (aB.Sm (2 ^ 21) a0) ∧ (aB.Sm (2 ^ 21) a1)
def R := RR (p2 gd) (u2 md)
theorem ai {a0 a1} (h : gd a0 a1) : R ((aB.r a0), (aB.r a1)) = some (md a0 a1) := aE (a := (a0, a1)) h
def aK := CN [.agg mn, .agg mn] oB RT.dec R
theorem okF (a0) (a1) (hg : gd a0 a1) : F (aB.r a0) (aB.r a1) = ret (md a0 a1) := by
 obtain ⟨H0, H1⟩ := hg
 unfold F md
 try simp only [SS]
 refine ak ret (fun c1 => ?_) (fun _ => rfl)
 refine ct (Z56.ai ⟨(H0.mono (by decide) (fun x hx => trivial)), (H1.mono (by decide) (fun x hx => trivial))⟩) ?_
 all_goals exact fz
theorem ab : Valid Tryz.prog Ev 233 aK := W2 17 F mix au okF (.cons Z56.ab .nil) Tryz.func233
theorem cp (a0 : aB) (a1 : aB) : md a0 a1 = cU a0 a1 := by
 unfold md
 cases a0; cases a1
 rw [Bool.eq_iff_iff]
 simp [ca, dA, aB.mk.injEq, Z56.cp]
 try (constructor <;> (intro h; simp_all))
end Z86
namespace Z87
def F (x0 : eI) (x1 : eI) : ay := (cond (x0.cX == x1.cX) (call (Z85.R (x0.av, x1.av)) fun v1 => (cond v1 (call (Z85.R (x0.bm, x1.bm)) fun v2 => (cond v2 (call (Z86.R (x0.cq, x1.cq)) fun v3 => (cond v3 (call (Z86.R (x0.bD, x1.bD)) fun v4 => ret (v4 : Bool)) (ret (false : Bool)))) (ret (false : Bool)))) (ret (false : Bool)))) (ret (false : Bool)))
def md (a0 : bt) (a1 : bt) : Bool := (cond (a0.cX == a1.cX) (cond (Z85.md a0.av a1.av) (cond (Z85.md a0.bm a1.bm) (cond (Z86.md a0.cq a1.cq) ((Z86.md a0.bD a1.bD) : Bool) (false : Bool)) (false : Bool)) (false : Bool)) (false : Bool))
def gd (a0 : bt) (a1 : bt) : Prop := (bt.Sm (2 ^ 21) a0) ∧ (bt.Sm (2 ^ 21) a1)
def R := RR (p2 gd) (u2 md)
theorem ai {a0 a1} (h : gd a0 a1) : R ((bt.r a0), (bt.r a1)) = some (md a0 a1) := aE (a := (a0, a1)) h
def aK := CN [.agg pw, .agg pw] oB RT.dec R
theorem okF (a0) (a1) (hg : gd a0 a1) : F (bt.r a0) (bt.r a1) = ret (md a0 a1) := by
 obtain ⟨H0, H1⟩ := hg
 unfold F md
 try simp only [SS]
 refine ak ret (fun c1 => ?_) (fun _ => rfl)
 refine ct (Z85.ai ⟨H0.1, H1.1⟩) ?_
 refine ak ret (fun c2 => ?_) (fun _ => rfl)
 refine ct (Z85.ai ⟨H0.2.1, H1.2.1⟩) ?_
 refine ak ret (fun c3 => ?_) (fun _ => rfl)
 refine ct (Z86.ai ⟨H0.2.2.1, H1.2.2.1⟩) ?_
 refine ak ret (fun c4 => ?_) (fun _ => rfl)
 refine ct (Z86.ai ⟨H0.2.2.2, H1.2.2.2⟩) ?_
 all_goals exact fz
theorem ab : Valid Tryz.prog Ev 188 aK := W2 38 F mix au okF (.cons Z85.ab (.cons Z86.ab .nil)) Tryz.func188
theorem cp (a0 : bt) (a1 : bt) : md a0 a1 = cU a0 a1 := by
 unfold md
 cases a0; cases a1
 rw [Bool.eq_iff_iff]
 simp [ca, dA, bt.mk.injEq, Z85.cp, Z86.cp]
 try (constructor <;> (intro h; simp_all))
end Z87
namespace Z88
inductive Pt where
 | p0 (a : List (List L)) (b : Int) (c : List (List L))
def pid : Pt → Nat
 | .p0 .. => 3
def bR : Pt → List V
 | .p0 a b c => [.sl none 35 a, .own 0, .int .i64 b]
def bQ : Pt → List aI
 | .p0 a b c => [.row 3 c]
def step (J : Pt → ay) : Pt → ay
 | .p0 a b c => (cond (decide (b < (a.length : Int))) (m2 b (a.length : Int) (call (Z76.R (bA.at a (Int.toNat b))) fun v1 => (bJ (dU (((c.length : Int) + 1) * 8)) (J (.p0 a (i64.wrap (b + 1)) (c ++ [[L.int v1]])))))) (ret (c : List (List L))))
def start (J : Pt → ay) (x0 : List (List L)) : ay := J (.p0 x0 0 [])
def live : Nat → Live := fun i => match i with | 3 => [(0, none), (3, some 3), (4, none)] | _ => []
def md (a0 : List aj) : List Int := (a0.map (fun (y1 : aj) => (Z76.md y1)))
def gd (a0 : List aj) : Prop := (bw (2 ^ 21) (fun y : aj => aj.Sm (2 ^ 21) y) a0)
def R := RR gd md
theorem ai {a0} (h : gd a0) : R (a0.map aj.row) = some ((md a0).map aP) := aE (a := a0) h
def aK := CN [pL 35] (oL 3) RT.dec R
theorem okF (a0) (hg : gd a0) : ∃ n, start (iter step n) (a0.map aj.row) = ret ((md a0).map aP) := by
  unfold gd at hg
  have H0 := hg
  unfold start md
  try simp only [SS]
  have Bh2 : a0.length ≤ maxLen := (by
      have := (H0).1
      try simp only [maxLen] at *
      omega)
  refine dV (out := (fun b : List Int => ret ((b.map aP) : List (List L)))) (mY (g := fun (y1 : aj) => (Z76.md y1)) (z := aj.zero) (t := fun (s3 : List Int) => s3)) ?_
  refine dk (p := Pt.p0 (a0.map aj.row) 0 ([].map aP)) fz ?_
  refine bP (pt := fun (i1 : Nat) (s3 : List Int) => Pt.p0 (a0.map aj.row) (i1 : Int) (s3.map aP)) (s := ([] : List Int)) (out := (fun b : List Int => ret ((b.map aP) : List (List L)))) (fun (i1 : Nat) (s3 : List Int) => s3.length ≤ ([] : List Int).length + 1 * i1) (fun J i1 s3 h2 hih2 => ?_) (fun s3 hih2 => ?_) (by simp)
  · simp only [step, SS]
    have gr_ := hih2
    try simp only [LN] at gr_
    have bb_ := Bh2
    simp only [maxLen] at bb_
    have := (H0).1
    refine aY.yes (by apply decide_eq_true; omega) ?_
    refine aY.yes ax ?_
    refine aY.yes (aD h2) ?_
    refine cr (Z76.ai (bw.getD (z := aj.zero) H0 h2)) ?_
    refine aY.yes lm ?_
    refine aY.inl (by
        have g_ := hih2
        try simp only [LN] at g_ ⊢
        first | omega | (simp; done) | (simp; omega)) ?_
    rw [az h2 Bh2]
    all_goals exact fz
  · simp only [step, SS]
    have gr_ := hih2
    try simp only [LN] at gr_
    have := (H0).1
    refine dh (by apply decide_eq_false; omega) ?_
    refine ⟨0, ?_⟩
    all_goals exact fz
theorem ab : Valid Tryz.prog Ev 284 aK := L1 21 pid bR bQ live step start mix au okF (.cons Z76.ab .nil) Tryz.func284
theorem len (a0 : List aj) : (md a0).length = a0.length := by simp [md]
end Z88
namespace Z89
inductive Pt where
 | p0 (a : List (List L)) (b : Int) (c : List (List L))
def pid : Pt → Nat
 | .p0 .. => 3
def bR : Pt → List V
 | .p0 a b c => [.sl none 3 a, .own 0, .int .i64 b]
def bQ : Pt → List aI
 | .p0 a b c => [.row 3 c]
def step (J : Pt → ay) : Pt → ay
 | .p0 a b c => (cond (decide (b < (a.length : Int))) (cond (decide ((i64.wrap (b + 1)) < (a.length : Int))) (m2 b (a.length : Int) (bJ (decide ((0 : Int) ≤ (i64.wrap (b + 1)))) (bJ (decide ((i64.wrap (b + 1)) < (a.length : Int))) (call (Z77.R ((iu a (Int.toNat b)), (iu a (Int.toNat (i64.wrap (b + 1)))))) fun v1 => (bJ (dU (((c.length : Int) + 1) * 8)) (J (.p0 a (i64.wrap (b + 2)) (c ++ [[L.int v1]])))))))) (m2 b (a.length : Int) (bJ (dU (((c.length : Int) + 1) * 8)) (J (.p0 a (i64.wrap (b + 2)) (c ++ [[L.int (iu a (Int.toNat b))]])))))) (ret (c : List (List L))))
def start (J : Pt → ay) (x0 : List (List L)) : ay := J (.p0 x0 0 [])
def live : Nat → Live := fun i => match i with | 3 => [(0, none), (3, some 3), (4, none)] | _ => []
def up : List Int → List Int
 | [] => []
 | [a] => [a]
 | a :: b :: r => Z77.md a b :: up r
theorem lE : ∀ l : List Int, (up l).length = (l.length + 1) / 2
 | [] => by simp [up]
 | [_] => by simp [up]
 | _ :: _ :: r => by
  have := lE r
  simp only [up, List.length_cons]
  omega
def md (a0 : List Int) : List Int := up a0
def gd (a0 : List Int) : Prop := bw (2 ^ 38) (fun y : Int => True) a0
def R := RR gd md
theorem ai {a0} (h : gd a0) : R (a0.map aP) = some ((md a0).map aP) := aE (a := a0) h
def aK := CN [pL 3] (oL 3) RT.dec R
theorem okF (a0) (hg : gd a0) : ∃ n, start (iter step n) (a0.map aP) = ret ((md a0).map aP) := by
  obtain ⟨H1, _⟩ := hg
  have key : ∀ (k i : Nat) (c : List Int), i + k = a0.length → c.length ≤ i → ∃ n, iter step n (Pt.p0 (a0.map aP) (i : Int) (c.map aP)) = ret ((c ++ up (a0.drop i)).map aP : List (List L)) := by
    intro k
    induction k using Nat.strongRecOn with
    | _ k ih =>
    intro i c hi hc
    match k, hi, ih with
    | 0, hi, _ =>
      refine ⟨1, ?_⟩
      show step (iter step 0) (Pt.p0 _ _ _) = _
      simp only [step, List.length_map]
      refine bZ (decide_eq_false (by omega)) ?_
      rw [List.drop_eq_nil_of_le (by omega)]
      simp only [up, List.append_nil]
    | 1, hi, ih =>
      obtain ⟨n, hn⟩ := ih 0 (by omega) (i + 1) (c ++ [a0.getD i 0]) (by omega) (by simp; omega)
      have h2 : ∃ n, iter step n (Pt.p0 (a0.map aP) (i64.wrap ((i : Int) + 2)) ((c ++ [a0.getD i 0]).map aP)) = ret ((c ++ [a0.getD i 0]).map aP : List (List L)) := by
        refine ⟨1, ?_⟩
        show step (iter step 0) (Pt.p0 _ _ _) = _
        simp only [step, List.length_map]
        refine bZ (decide_eq_false ?_) rfl
        rw [Go.IntWalk.i64_in _ (by omega)]; omega
      obtain ⟨n, hn⟩ := h2
      refine ⟨n + 1, ?_⟩
      show step (iter step n) (Pt.p0 _ _ _) = _
      simp only [step, List.length_map, cg, gn]
      refine af (decide_eq_true (by omega)) (bZ (decide_eq_false ?_) (af (decide_eq_true (by omega)) (af (decide_eq_true (by omega)) (af (iD (by omega)) ?_))))
      · rw [Go.IntWalk.i64_in _ (by omega)]; omega
      · rw [List.map_append] at hn
        refine Eq.trans hn ?_
        rw [List.drop_eq_getElem_cons (by omega), List.drop_eq_nil_of_le (by omega), dx (by omega : i < a0.length)]
        simp only [up, List.map_append]
    | k + 2, hi, ih =>
      obtain ⟨n, hn⟩ := ih k (by omega) (i + 2) (c ++ [Z77.md (a0.getD i 0) (a0.getD (i + 1) 0)]) (by omega) (by simp; omega)
      refine ⟨n + 1, ?_⟩
      show step (iter step n) (Pt.p0 _ _ _) = _
      have w1 : i64.wrap ((i : Int) + 1) = ((i + 1 : Nat) : Int) := by rw [Go.IntWalk.i64_in _ (by omega)]; omega
      have w2 : i64.wrap ((i : Int) + 2) = ((i + 2 : Nat) : Int) := by rw [Go.IntWalk.i64_in _ (by omega)]; omega
      simp only [step, List.length_map, w1, w2, cg, gn]
      refine af (decide_eq_true (by omega)) (af (decide_eq_true (by omega)) (af (decide_eq_true (by omega)) (af (decide_eq_true (by omega)) (af (decide_eq_true (by omega)) (af (decide_eq_true (by omega)) ?_)))))
      refine aN (Z77.md (a0.getD i 0) (a0.getD (i + 1) 0)) (Z77.ai trivial) (af (iD (by omega)) ?_)
      rw [List.map_append] at hn
      refine Eq.trans hn ?_
      rw [List.drop_eq_getElem_cons (by omega : i < a0.length), List.drop_eq_getElem_cons (by omega : i + 1 < a0.length), dx (by omega : i < a0.length), dx (by omega : i + 1 < a0.length)]
      simp only [up, List.append_assoc, List.cons_append, List.nil_append]
  have := key a0.length 0 [] (by omega) (by simp)
  unfold start md
  simpa using this
theorem ab : Valid Tryz.prog Ev 327 aK := L1 38 pid bR bQ live step start mix au okF (.cons Z77.ab .nil) Tryz.func327
end Z89
namespace Z90
inductive Pt where
 | p0 (a : List (List L))
 | p1 (a : List (List L))
def pid : Pt → Nat
 | .p0 .. => 4
 | .p1 .. => 4
def bR : Pt → List V
 | .p0 a => [.sl none 3 a]
 | .p1 a => [.own 0]
def bQ : Pt → List aI
 | .p0 a => []
 | .p1 a => [.row 3 a]
def step (J : Pt → ay) : Pt → ay
 | .p0 a => (cond (decide ((a.length : Int) > 1)) (call (Z89.R a) fun v1 => J (.p1 v1)) (bJ (decide ((0 : Int) < (a.length : Int))) (ret ((iu a 0) : Int))))
 | .p1 a => (cond (decide ((a.length : Int) > 1)) (call (Z89.R a) fun v1 => J (.p1 v1)) (bJ (decide ((0 : Int) < (a.length : Int))) (ret ((iu a 0) : Int))))
def start (J : Pt → ay) (x0 : List (List L)) : ay := (cond ((x0.length : Int) == 0) (call (Z45.R [[L.int 229]]) fun v1 => ret (v1 : Int)) (J (.p0 x0)))
def live : Nat → Live := fun i => match i with | 4 => [(3, none)] | _ => []
def top : Nat → List Int → Int
 | 0, l => l.getD 0 0
 | k + 1, l => if l.length > 1 then top k (Z89.up l) else l.getD 0 0
def md (a0 : List Int) : Int := (if a0.length = 0 then Z45.md [229] else top a0.length a0)
def gd (a0 : List Int) : Prop := bw (2 ^ 38) (fun y : Int => True) a0
def R := RR gd md
theorem ai {a0} (h : gd a0) : R (a0.map aP) = some (md a0) := aE (a := a0) h
def aK := CN [pL 3] oI RT.dec R
theorem okF (a0) (hg : gd a0) : ∃ n, start (iter step n) (a0.map aP) = ret (md a0) := by
  have one : ∀ (l : List Int) (r : Int) (n : Nat), bw (2 ^ 38) (fun y : Int => True) l → 0 < l.length → (if l.length > 1 then iter step n (Pt.p1 ((Z89.up l).map aP)) = ret r else ret (l.getD 0 0 : Int) = ret r) → step (iter step n) (Pt.p0 (l.map aP)) = ret r ∧ step (iter step n) (Pt.p1 (l.map aP)) = ret r := by
    intro l r n hl hp h
    simp only [step, List.length_map, gn]
    by_cases h1 : l.length > 1
    · rw [if_pos h1] at h
      have hx : ∀ y : ay, (cond (decide ((l.length : Int) > 1)) (call (Z89.R (l.map aP)) (fun v1 => iter step n (Pt.p1 v1))) y) = ret r := fun y =>
        af (decide_eq_true (by omega)) (aN ((Z89.up l).map aP) (Z89.ai hl) h)
      exact ⟨hx _, hx _⟩
    · rw [if_neg h1] at h
      have hx : ∀ y : ay, (cond (decide ((l.length : Int) > 1)) y (cond (decide ((0 : Int) < (l.length : Int))) (ret (l.getD 0 0 : Int)) none)) = ret r := fun y =>
        bZ (decide_eq_false (by omega)) (af (decide_eq_true (by omega)) h)
      exact ⟨hx _, hx _⟩
  have key : ∀ (k : Nat) (l : List Int), bw (2 ^ 38) (fun y : Int => True) l → 0 < l.length → l.length ≤ k + 1 → ∃ n, step (iter step n) (Pt.p0 (l.map aP)) = ret (top k l) ∧ step (iter step n) (Pt.p1 (l.map aP)) = ret (top k l) := by
    intro k
    induction k with
    | zero =>
      intro l hl hp hk
      exact ⟨0, one l _ 0 hl hp (by rw [if_neg (by omega)]; rfl)⟩
    | succ k ih =>
      intro l hl hp hk
      by_cases h1 : l.length > 1
      · have hu := Z89.lE l
        have hl1 := hl.1
        obtain ⟨n, _, hn⟩ := ih (Z89.up l) ⟨by omega, fun _ _ => trivial⟩ (by omega) (by omega)
        refine ⟨n + 1, one l _ (n + 1) hl hp ?_⟩
        rw [if_pos h1]
        refine Eq.trans hn ?_
        unfold top
        rw [if_pos h1]
        cases k <;> rfl
      · refine ⟨0, one l _ 0 hl hp ?_⟩
        rw [if_neg h1]
        unfold top
        rw [if_neg h1]
  unfold md
  unfold start
  simp only [List.length_map]
  by_cases h0 : a0.length = 0
  · have e : ((a0.length : Int) == 0) = true := by simpa using List.length_eq_zero_iff.1 h0
    refine ⟨0, ?_⟩
    rw [e]
    refine aN (Z45.md [229]) (Z45.ai (a0 := [229]) ⟨by decide, fun _ _ => trivial⟩) ?_
    rw [if_pos h0]
  · have e : ((a0.length : Int) == 0) = false := beq_eq_false_iff_ne.2 (by omega)
    obtain ⟨n, hn, _⟩ := key a0.length a0 hg (by omega) (by omega)
    refine ⟨n + 1, ?_⟩
    rw [e, if_neg h0]
    exact hn
theorem ab : Valid Tryz.prog Ev 283 aK := L1 18 pid bR bQ live step start mix au okF (.cons Z45.ab (.cons Z89.ab .nil)) Tryz.func283
end Z90
namespace Z91
def F (x0 : List (List L)) : ay := (call (Z88.R x0) fun v1 => (call (Z90.R v1) fun v2 => (call (Z82.R ((x0.length : Int), v2)) fun v3 => ret (v3 : Int))))
def md (a0 : List aj) : Int := ((Z82.md (a0.length : Int) (Z90.md (Z88.md a0))) : Int)
def gd (a0 : List aj) : Prop := (bw (2 ^ 21) (fun y : aj => aj.Sm (2 ^ 21) y) a0)
def R := RR gd md
theorem ai {a0} (h : gd a0) : R (a0.map aj.row) = some (md a0) := aE (a := a0) h
def aK := CN [pL 35] oI RT.dec R
theorem okF (a0) (hg : gd a0) : F (a0.map aj.row) = ret (md a0) := by
 unfold gd at hg
 have H0 := hg
 unfold F md
 try simp only [SS]
 refine ct (Z88.ai H0) ?_
 try simp only [SS]
 refine ct (Z90.ai ⟨(have := Z88.len a0; have := (H0).1; om), fun _ _ => trivial⟩) ?_
 refine ct (Z82.ai trivial) ?_
 all_goals exact fz
theorem ab : Valid Tryz.prog Ev 234 aK := W1 9 F mix au okF (.cons Z88.ab (.cons Z90.ab (.cons Z82.ab .nil))) Tryz.func234
end Z91
namespace Z92
def F (x0 : bA) (x1 : cn) : ay := (call (Z85.R (x0, (⟨(⟨#[]⟩ : ByteArray), 0, 0, []⟩ : bA))) fun v1 => (cond v1 (call (Z86.R (x1, (⟨0, []⟩ : cn))) fun v2 => ret (v2 : Bool)) (ret (false : Bool))))
def md (a0 : aj) (a1 : aB) : Bool := (cond (Z85.md a0 (⟨((⟨#[]⟩ : ByteArray) : ByteArray), 0, 0, []⟩ : aj)) ((Z86.md a1 (⟨0, []⟩ : aB)) : Bool) (false : Bool))
def gd (a0 : aj) (a1 : aB) : Prop := (aj.Sm (2 ^ 21) a0) ∧ (aB.Sm (2 ^ 21) a1)
def R := RR (p2 gd) (u2 md)
theorem ai {a0 a1} (h : gd a0 a1) : R ((aj.r a0), (aB.r a1)) = some (md a0 a1) := aE (a := (a0, a1)) h
def aK := CN [.agg nM, .agg mn] oB RT.dec R
theorem okF (a0) (a1) (hg : gd a0 a1) : F (aj.r a0) (aB.r a1) = ret (md a0 a1) := by
 obtain ⟨H0, H1⟩ := hg
 unfold F md
 try simp only [SS]
 refine ct (Z85.ai (a1 := (⟨((⟨#[]⟩ : ByteArray) : ByteArray), 0, 0, []⟩ : aj)) ⟨H0, ⟨(by decide), bw.nil⟩⟩) ?_
 refine ak ret (fun c1 => ?_) (fun _ => rfl)
 refine ct (Z86.ai (a1 := (⟨0, []⟩ : aB)) ⟨H1, bw.nil⟩) ?_
 all_goals exact fz
theorem ab : Valid Tryz.prog Ev 190 aK := W2 13 F mix au okF (.cons Z85.ab (.cons Z86.ab .nil)) Tryz.func190
end Z92
namespace Z93
def F (x0 : ByteArray) (x1 : ByteArray) : ay := (cond (Op.bytesLess x0.toList x1.toList) (ret ((-1) : Int)) (cond (!((Op.bytesLess x0.toList x1.toList) || (x0.toList == x1.toList))) (ret (1 : Int)) (ret (0 : Int))))
def md (a0 : ByteArray) (a1 : ByteArray) : Int := (cond (Op.bytesLess a0.toList a1.toList) ((-1) : Int) (cond (!((Op.bytesLess a0.toList a1.toList) || (a0.toList == a1.toList))) (1 : Int) (0 : Int)))
def gd (a0 : ByteArray) (a1 : ByteArray) : Prop := True
def R := RR (p2 gd) (u2 md)
theorem ai {a0 a1} (h : gd a0 a1) : R (a0, a1) = some (md a0 a1) := aE (a := (a0, a1)) h
def aK := CN [pS, pS] oI RT.dec R
theorem okF (a0) (a1) (hg : gd a0 a1) : F a0 a1 = ret (md a0 a1) := by
 unfold F md
 try simp only [SS]
 refine ak ret (fun _ => rfl) (fun c1 => ?_)
 refine ak ret (fun _ => rfl) (fun _ => rfl)
theorem ab : Valid Tryz.prog Ev 235 aK := W2 13 F mix au okF .nil Tryz.func235
theorem gB (a b : ByteArray) : md a b = -1 ∨ md a b = 0 ∨ md a b = 1 := by
  unfold md
  cases Op.bytesLess a.toList b.toList
  · cases (!(false || (a.toList == b.toList))) <;> simp
  · simp
theorem lt (a b : ByteArray) : decide (md a b < 0) = (md a b == -1) := by
 rcases gB a b with h | h | h <;> rw [h] <;> rfl
theorem gt (a b : ByteArray) : decide (md a b > 0) = (md a b == 1) := by
 rcases gB a b with h | h | h <;> rw [h] <;> rfl
end Z93
namespace Z94
def F (x0 : Int) (x1 : Int) (x2 : ByteArray) (x3 : eI) : ay := (call (Z79.R x2) fun v1 => (cond (!v1) (ret (false : Bool)) (call (Z39.R (x3.cX, 0, x1)) fun v2 => (cond (!v2) (ret (false : Bool)) (cond (x1 == 0) (call (Z91.R []) fun v3 => (cond (x0 != v3) (ret (false : Bool)) (cond (x3.cX == 0) (call (Z92.R (x3.av, x3.cq)) fun v4 => (cond (!v4) (ret (false : Bool)) (cond (x3.cX == x1) (call (Z92.R (x3.bm, x3.bD)) fun v5 => ret (v5 : Bool)) (call (Z83.R (x0, x1, x3.bm, x3.bD)) fun v6 => (cond v6 (cond (x3.bD.cX == x3.cX) (call (Z93.R (x3.bm.aV, x2)) fun v7 => ret ((v7 == 1) : Bool)) (ret (false : Bool))) (ret (false : Bool))))))) (call (Z83.R (x0, x1, x3.av, x3.cq)) fun v8 => (cond (!v8) (ret (false : Bool)) (cond (x3.cq.cX != (i64.wrap (x3.cX - 1))) (ret (false : Bool)) (call (Z93.R (x3.av.aV, x2)) fun v9 => (cond (v9 != (-1)) (ret (false : Bool)) (cond (x3.cX == x1) (call (Z92.R (x3.bm, x3.bD)) fun v10 => ret (v10 : Bool)) (call (Z83.R (x0, x1, x3.bm, x3.bD)) fun v11 => (cond v11 (cond (x3.bD.cX == x3.cX) (call (Z93.R (x3.bm.aV, x2)) fun v12 => ret ((v12 == 1) : Bool)) (ret (false : Bool))) (ret (false : Bool))))))))))))) (cond (x3.cX == 0) (call (Z92.R (x3.av, x3.cq)) fun v13 => (cond (!v13) (ret (false : Bool)) (cond (x3.cX == x1) (call (Z92.R (x3.bm, x3.bD)) fun v14 => ret (v14 : Bool)) (call (Z83.R (x0, x1, x3.bm, x3.bD)) fun v15 => (cond v15 (cond (x3.bD.cX == x3.cX) (call (Z93.R (x3.bm.aV, x2)) fun v16 => ret ((v16 == 1) : Bool)) (ret (false : Bool))) (ret (false : Bool))))))) (call (Z83.R (x0, x1, x3.av, x3.cq)) fun v17 => (cond (!v17) (ret (false : Bool)) (cond (x3.cq.cX != (i64.wrap (x3.cX - 1))) (ret (false : Bool)) (call (Z93.R (x3.av.aV, x2)) fun v18 => (cond (v18 != (-1)) (ret (false : Bool)) (cond (x3.cX == x1) (call (Z92.R (x3.bm, x3.bD)) fun v19 => ret (v19 : Bool)) (call (Z83.R (x0, x1, x3.bm, x3.bD)) fun v20 => (cond v20 (cond (x3.bD.cX == x3.cX) (call (Z93.R (x3.bm.aV, x2)) fun v21 => ret ((v21 == 1) : Bool)) (ret (false : Bool))) (ret (false : Bool))))))))))))))))
def md (a0 : Int) (a1 : Int) (a2 : ByteArray) (a3 : bt) : Bool := (cond (!(Z79.md a2)) (false : Bool) (cond (!(Z39.md a3.cX 0 a1)) (false : Bool) (cond (a1 == 0) (cond (a0 != (Z91.md [])) (false : Bool) (cond (a3.cX == 0) (cond (!(Z92.md a3.av a3.cq)) (false : Bool) (cond (a3.cX == a1) ((Z92.md a3.bm a3.bD) : Bool) (cond (Z83.md a0 a1 a3.bm a3.bD) (cond (a3.bD.cX == a3.cX) (((Z93.md a3.bm.aV a2) == 1) : Bool) (false : Bool)) (false : Bool)))) (cond (!(Z83.md a0 a1 a3.av a3.cq)) (false : Bool) (cond (a3.cq.cX != (i64.wrap (a3.cX - 1))) (false : Bool) (cond ((Z93.md a3.av.aV a2) != (-1)) (false : Bool) (cond (a3.cX == a1) ((Z92.md a3.bm a3.bD) : Bool) (cond (Z83.md a0 a1 a3.bm a3.bD) (cond (a3.bD.cX == a3.cX) (((Z93.md a3.bm.aV a2) == 1) : Bool) (false : Bool)) (false : Bool)))))))) (cond (a3.cX == 0) (cond (!(Z92.md a3.av a3.cq)) (false : Bool) (cond (a3.cX == a1) ((Z92.md a3.bm a3.bD) : Bool) (cond (Z83.md a0 a1 a3.bm a3.bD) (cond (a3.bD.cX == a3.cX) (((Z93.md a3.bm.aV a2) == 1) : Bool) (false : Bool)) (false : Bool)))) (cond (!(Z83.md a0 a1 a3.av a3.cq)) (false : Bool) (cond (a3.cq.cX != (i64.wrap (a3.cX - 1))) (false : Bool) (cond ((Z93.md a3.av.aV a2) != (-1)) (false : Bool) (cond (a3.cX == a1) ((Z92.md a3.bm a3.bD) : Bool) (cond (Z83.md a0 a1 a3.bm a3.bD) (cond (a3.bD.cX == a3.cX) (((Z93.md a3.bm.aV a2) == 1) : Bool) (false : Bool)) (false : Bool))))))))))
def gd (a0 : Int) (a1 : Int) (a2 : ByteArray) (a3 : bt) : Prop := (a2.size ≤ (2 ^ 21)) ∧ (bt.Sm (2 ^ 21) a3)
def R := RR (p4 gd) (u4 md)
theorem ai {a0 a1 a2 a3} (h : gd a0 a1 a2 a3) : R (a0, a1, a2, (bt.r a3)) = some (md a0 a1 a2 a3) := aE (a := (a0, a1, a2, a3)) h
def aK := CN [pI, pI, pS, .agg pw] oB RT.dec R
theorem okF (a0) (a1) (a2) (a3) (hg : gd a0 a1 a2 a3) : F a0 a1 a2 (bt.r a3) = ret (md a0 a1 a2 a3) := by
  obtain ⟨H2, H3⟩ := hg
  unfold F md
  try simp only [SS]
  refine ct (Z79.ai H2) ?_
  refine ak ret (fun _ => rfl) (fun c1 => ?_)
  refine ct (Z39.ai trivial) ?_
  refine ak ret (fun _ => rfl) (fun c2 => ?_)
  refine ak ret (fun c3 => ?_) (fun c3 => ?_)
  · refine aN (Z91.md []) (rq (Z91.ai (a0 := []) bw.nil)) ?_
    refine ak ret (fun _ => rfl) (fun c4 => ?_)
    refine ak ret (fun c5 => ?_) (fun c5 => ?_)
    · refine ct (Z92.ai ⟨H3.1, H3.2.2.1⟩) ?_
      refine ak ret (fun _ => rfl) (fun c6 => ?_)
      refine ak ret (fun c7 => ?_) (fun c7 => ?_)
      · refine ct (Z92.ai ⟨H3.2.1, H3.2.2.2⟩) ?_
        all_goals exact fz
      · refine ct (Z83.ai ⟨H3.2.1, H3.2.2.2⟩) ?_
        refine ak ret (fun c8 => ?_) (fun _ => rfl)
        refine ak ret (fun c9 => ?_) (fun _ => rfl)
        refine ct (Z93.ai trivial) ?_
        all_goals exact fz
    · refine ct (Z83.ai ⟨H3.1, H3.2.2.1⟩) ?_
      refine ak ret (fun _ => rfl) (fun c10 => ?_)
      refine ak ret (fun _ => rfl) (fun c11 => ?_)
      refine ct (Z93.ai trivial) ?_
      refine ak ret (fun _ => rfl) (fun c12 => ?_)
      refine ak ret (fun c13 => ?_) (fun c13 => ?_)
      · refine ct (Z92.ai ⟨H3.2.1, H3.2.2.2⟩) ?_
        all_goals exact fz
      · refine ct (Z83.ai ⟨H3.2.1, H3.2.2.2⟩) ?_
        refine ak ret (fun c14 => ?_) (fun _ => rfl)
        refine ak ret (fun c15 => ?_) (fun _ => rfl)
        refine ct (Z93.ai trivial) ?_
        all_goals exact fz
  · refine ak ret (fun c16 => ?_) (fun c16 => ?_)
    · refine ct (Z92.ai ⟨H3.1, H3.2.2.1⟩) ?_
      refine ak ret (fun _ => rfl) (fun c17 => ?_)
      refine ak ret (fun c18 => ?_) (fun c18 => ?_)
      · refine ct (Z92.ai ⟨H3.2.1, H3.2.2.2⟩) ?_
        all_goals exact fz
      · refine ct (Z83.ai ⟨H3.2.1, H3.2.2.2⟩) ?_
        refine ak ret (fun c19 => ?_) (fun _ => rfl)
        refine ak ret (fun c20 => ?_) (fun _ => rfl)
        refine ct (Z93.ai trivial) ?_
        all_goals exact fz
    · refine ct (Z83.ai ⟨H3.1, H3.2.2.1⟩) ?_
      refine ak ret (fun _ => rfl) (fun c21 => ?_)
      refine ak ret (fun _ => rfl) (fun c22 => ?_)
      refine ct (Z93.ai trivial) ?_
      refine ak ret (fun _ => rfl) (fun c23 => ?_)
      refine ak ret (fun c24 => ?_) (fun c24 => ?_)
      · refine ct (Z92.ai ⟨H3.2.1, H3.2.2.2⟩) ?_
        all_goals exact fz
      · refine ct (Z83.ai ⟨H3.2.1, H3.2.2.2⟩) ?_
        refine ak ret (fun c25 => ?_) (fun _ => rfl)
        refine ak ret (fun c26 => ?_) (fun _ => rfl)
        refine ct (Z93.ai trivial) ?_
        all_goals exact fz
theorem ab : Valid Tryz.prog Ev 189 aK := W4 95 F mix au okF (.cons Z79.ab (.cons Z39.ab (.cons Z91.ab (.cons Z92.ab (.cons Z83.ab (.cons Z93.ab .nil)))))) Tryz.func189
end Z94
namespace Z95
def F (x0 : bq) (x1 : ByteArray) (x2 : bd) : ay := (cond x2.bu (cond (x2.aH.aV == x1) (call (Z83.R (x0.cj, x0.bG, x2.aH, x2.cE)) fun v1 => (cond v1 (call (Z87.R (x2.cL, (⟨0, (⟨(⟨#[]⟩ : ByteArray), 0, 0, []⟩ : bA), (⟨(⟨#[]⟩ : ByteArray), 0, 0, []⟩ : bA), (⟨0, []⟩ : cn), (⟨0, []⟩ : cn)⟩ : eI))) fun v2 => ret (v2 : Bool)) (ret (false : Bool)))) (ret (false : Bool))) (call (Z94.R (x0.cj, x0.bG, x1, x2.cL)) fun v3 => (cond v3 (call (Z92.R (x2.aH, x2.cE)) fun v4 => ret (v4 : Bool)) (ret (false : Bool)))))
def md (a0 : aq) (a1 : ByteArray) (a2 : ad) : Bool := (cond a2.bu (cond (a2.aH.aV == a1) (cond (Z83.md a0.cj a0.bG a2.aH a2.cE) ((Z87.md a2.cL (⟨0, (⟨((⟨#[]⟩ : ByteArray) : ByteArray), 0, 0, []⟩ : aj), (⟨((⟨#[]⟩ : ByteArray) : ByteArray), 0, 0, []⟩ : aj), (⟨0, []⟩ : aB), (⟨0, []⟩ : aB)⟩ : bt)) : Bool) (false : Bool)) (false : Bool)) (cond (Z94.md a0.cj a0.bG a1 a2.cL) ((Z92.md a2.aH a2.cE) : Bool) (false : Bool)))
def gd (a0 : aq) (a1 : ByteArray) (a2 : ad) : Prop := (a1.size ≤ (2 ^ 21)) ∧ (ad.Sm (2 ^ 21) a2)
def R := RR (p3 gd) (u3 md)
theorem ai {a0 a1 a2} (h : gd a0 a1 a2) : R ((aq.r a0), a1, (ad.r a2)) = some (md a0 a1 a2) := aE (a := (a0, a1, a2)) h
def aK := CN [.agg eA, pS, .agg rj] oB RT.dec R
theorem okF (a0) (a1) (a2) (hg : gd a0 a1 a2) : F (aq.r a0) a1 (ad.r a2) = ret (md a0 a1 a2) := by
  obtain ⟨H1, H2⟩ := hg
  unfold F md
  try simp only [SS]
  refine ak ret (fun c1 => ?_) (fun c1 => ?_)
  · refine ak ret (fun c2 => ?_) (fun _ => rfl)
    refine ct (Z83.ai ⟨H2.2.1, H2.2.2.1⟩) ?_
    refine ak ret (fun c3 => ?_) (fun _ => rfl)
    refine ct (Z87.ai (a1 := (⟨0, (⟨((⟨#[]⟩ : ByteArray) : ByteArray), 0, 0, []⟩ : aj), (⟨((⟨#[]⟩ : ByteArray) : ByteArray), 0, 0, []⟩ : aj), (⟨0, []⟩ : aB), (⟨0, []⟩ : aB)⟩ : bt)) ⟨H2.2.2.2, ⟨⟨(by decide), bw.nil⟩, ⟨(by decide), bw.nil⟩, bw.nil, bw.nil⟩⟩) ?_
    all_goals exact fz
  · refine ct (Z94.ai ⟨H1, H2.2.2.2⟩) ?_
    refine ak ret (fun c4 => ?_) (fun _ => rfl)
    refine ct (Z92.ai ⟨H2.2.1, H2.2.2.1⟩) ?_
    all_goals exact fz
theorem ab : Valid Tryz.prog Ev 140 aK := W3 46 F mix au okF (.cons Z83.ab (.cons Z87.ab (.cons Z94.ab (.cons Z92.ab .nil)))) Tryz.func140
end Z95
namespace Z96
def F (x0 : Int) (x1 : ByteArray) (x2 : bd) (x3 : Int) : ay := (call (Z65.R x2.aL) fun v1 => (cond (!v1.2) (ret (3 : Int)) (cond (v1.1.aT != x0) (ret (2 : Int)) (call (Z72.R (v1.1, x3)) fun v2 => (cond (!v2) (ret (4 : Int)) (cond v1.1.aS (ret (5 : Int)) (call (Z95.R (v1.1, x1, x2)) fun v3 => (cond (!v3) (ret (6 : Int)) (ret (1 : Int))))))))))
def md (a0 : Int) (a1 : ByteArray) (a2 : ad) (a3 : Int) : Int := (cond (!(Z65.md a2.aL).2) (3 : Int) (cond ((Z65.md a2.aL).1.aT != a0) (2 : Int) (cond (!(Z72.md ((Z65.md a2.aL).1) a3)) (4 : Int) (cond ((Z65.md a2.aL).1.aS) (5 : Int) (cond (!(Z95.md ((Z65.md a2.aL).1) a1 a2)) (6 : Int) (1 : Int))))))
def gd (a0 : Int) (a1 : ByteArray) (a2 : ad) (a3 : Int) : Prop := (a1.size ≤ (2 ^ 21)) ∧ (ad.Sm (2 ^ 21) a2)
def R := RR (p4 gd) (u4 md)
theorem ai {a0 a1 a2 a3} (h : gd a0 a1 a2 a3) : R (a0, a1, (ad.r a2), a3) = some (md a0 a1 a2 a3) := aE (a := (a0, a1, a2, a3)) h
def aK := CN [pI, pS, .agg rj, pI] oI RT.dec R
theorem okF (a0) (a1) (a2) (a3) (hg : gd a0 a1 a2 a3) : F a0 a1 (ad.r a2) a3 = ret (md a0 a1 a2 a3) := by
 obtain ⟨H1, H2⟩ := hg
 unfold F md
 try simp only [SS]
 refine ct (Z65.ai H2.1) ?_
 try simp only [SS]
 refine ak ret (fun _ => rfl) (fun c1 => ?_)
 refine ak ret (fun _ => rfl) (fun c2 => ?_)
 refine ct (Z72.ai trivial) ?_
 refine ak ret (fun _ => rfl) (fun c3 => ?_)
 refine ak ret (fun _ => rfl) (fun c4 => ?_)
 refine ct (Z95.ai ⟨H1, H2⟩) ?_
 refine ak ret (fun _ => rfl) (fun _ => rfl)
theorem ab : Valid Tryz.prog Ev 71 aK := W4 39 F mix au okF (.cons Z65.ab (.cons Z72.ab (.cons Z95.ab .nil))) Tryz.func71
end Z96
namespace Z97
inductive Pt where
 | p0 (a : Int) (b : aC) (c : aC)
def pid : Pt → Nat
 | .p0 .. => 4
def bR : Pt → List V
 | .p0 a b c => [.cC 0 0, .cC 1 0, .int .i64 a]
def bQ : Pt → List aI
 | .p0 a b c => [.box [.int .i64 b.ae.aT, .int .i64 b.ae.bN, .int .i64 b.ae.bg, .int .i64 b.ae.bL, .int .i64 b.ae.bF, .int .i64 b.ae.bG, .int .i64 b.ae.cj, .int .i64 b.ae.cB, .sl none 3 b.ae.bh.aF, .int .i64 b.ae.bh.bH, .sl none 3 b.ae.aQ.aF, .int .i64 b.ae.aQ.bH, .int .i64 b.ae.cf, .sl none 3 b.ae.aM.aF, .int .i64 b.ae.aM.bH, .bool b.ae.aS, .sl none 264 b.bC], .box [.int .i64 c.ae.aT, .int .i64 c.ae.bN, .int .i64 c.ae.bg, .int .i64 c.ae.bL, .int .i64 c.ae.bF, .int .i64 c.ae.bG, .int .i64 c.ae.cj, .int .i64 c.ae.cB, .sl none 3 c.ae.bh.aF, .int .i64 c.ae.bh.bH, .sl none 3 c.ae.aQ.aF, .int .i64 c.ae.aQ.bH, .int .i64 c.ae.cf, .sl none 3 c.ae.aM.aF, .int .i64 c.ae.aM.bH, .bool c.ae.aS, .sl none 264 c.bC]]
def step (J : Pt → ay) : Pt → ay
 | .p0 a b c => (cond (decide (a < (b.bC.length : Int))) (m2 a (b.bC.length : Int) (m2 a (c.bC.length : Int) (cond (!((((aJ.at b.bC (Int.toNat a)).fq : Int) == (aJ.at c.bC (Int.toNat a)).fq) && ((((aJ.at b.bC (Int.toNat a)).gN : Int) == (aJ.at c.bC (Int.toNat a)).gN) && true))) (ret (false : Bool)) (J (.p0 (i64.wrap (a + 1)) b c))))) (ret (true : Bool)))
def start (J : Pt → ay) (x0 : aC) (x1 : aC) : ay := (call (Z67.R (x0.ae, x1.ae)) fun v1 => (cond (!v1) (ret (false : Bool)) (cond ((x0.bC.length : Int) != (x1.bC.length : Int)) (ret (false : Bool)) (J (.p0 0 x0 x1)))))
def live : Nat → Live := fun i => match i with | 4 => [(2, none), (3, none), (5, none)] | _ => []
def md (a0 : aa) (a1 : aa) : Bool := (bif (!(Z67.md a0.ae a1.ae)) then (false : Bool) else (bif ((a0.bC.length : Int) != (a1.bC.length : Int)) then (false : Bool) else (dc (S := Unit) (β := Bool) (fun (i3 : Nat) (s5 : Unit) => (cond (!((((a0.bC.getD i3 aJ.zero).fq : Int) == (a1.bC.getD i3 aJ.zero).fq) && ((((a0.bC.getD i3 aJ.zero).gN : Int) == (a1.bC.getD i3 aJ.zero).gN) && true))) (.inr (false : Bool)) (.inl ()))) (fun (s5 : Unit) => (true : Bool)) a0.bC.length 0 ())))
def gd (a0 : aa) (a1 : aa) : Prop := (aa.Sm (2 ^ 21) a0) ∧ (aa.Sm (2 ^ 21) a1)
def R := RR (p2 gd) (u2 md)
theorem ai {a0 a1} (h : gd a0 a1) : R ((aa.r a0), (aa.r a1)) = some (md a0 a1) := aE (a := (a0, a1)) h
def aK := CN [.agg iR, .agg iR] oB RT.dec R
theorem okF (a0) (a1) (hg : gd a0 a1) : ∃ n, start (iter step n) (aa.r a0) (aa.r a1) = ret (md a0 a1) := by
  obtain ⟨H0, H1⟩ := hg
  unfold start md
  try simp only [SS]
  refine cx (Z67.ai ⟨H0.1, H1.1⟩) ?_
  refine fw ret (fun _ => ⟨0, rfl⟩) (fun c1 => ?_)
  have dc1 := c1
  try simp only [DC] at dc1
  refine fw ret (fun _ => ⟨0, rfl⟩) (fun c2 => ?_)
  have dc2 := c2
  try simp only [DC] at dc2
  have Bh4 : a0.bC.length ≤ maxLen := (by
      have := (H0.2).1
      try simp only [maxLen] at *
      omega)
  refine dk (p := Pt.p0 0 (aa.r a0) (aa.r a1)) fz ?_
  refine bP (pt := fun (i3 : Nat) (s5 : Unit) => Pt.p0 (i3 : Int) (aa.r a0) (aa.r a1)) (s := (() : Unit)) (out := ret) (fun _ _ => True) (fun J i3 s5 h4 hih4 => ?_) (fun s5 hih4 => ?_) trivial
  · simp only [step, SS]
    have bb_ := Bh4
    simp only [maxLen] at bb_
    have := (H0.2).1
    refine aY.yes (by apply decide_eq_true; omega) ?_
    refine aY.yes ax ?_
    refine aY.yes (aD h4) ?_
    refine aY.yes ax ?_
    refine aY.yes (have := (H1.2).1; dt) ?_
    refine aY.bif (fun _ => aY.inr rfl) (fun c6 => ?_)
    refine aY.inl trivial ?_
    rw [az h4 Bh4]
    all_goals exact fz
  · simp only [step, SS]
    have := (H0.2).1
    refine dh (by apply decide_eq_false; omega) ?_
    refine ⟨0, ?_⟩
    all_goals exact fz
theorem ab : Valid Tryz.prog Ev 236 aK := L2 39 pid bR bQ live step start mix au okF (.cons Z67.ab .nil) Tryz.func236
theorem cp (a0 : aa) (a1 : aa) : md a0 a1 = cU a0 a1 := by
 unfold md
 simp only [Z67.cp, dL, aJ.xc]
 rw [iG aJ.zero (fun i s h h2 => by cases cU (a0.bC.getD i aJ.zero) (a1.bC.getD i aJ.zero) <;> rfl) (fun s => rfl)]
 rw [Bool.eq_iff_iff]
 cases a0; cases a1
 simp [ca]
end Z97
namespace Z98
def F (x0 : aZ) : ay := (call (Z67.R (x0.fA.ae, x0.fB.ae)) fun v1 => (cond v1 (ret (false : Bool)) (call (Z97.R (x0.av, (⟨(⟨0, 0, 0, 0, 0, 0, 0, 0, (⟨[], 0⟩ : aO), (⟨[], 0⟩ : aO), 0, (⟨[], 0⟩ : aO), false⟩ : bq), []⟩ : aC))) fun v2 => (cond v2 (call (Z53.R x0.fA) fun v3 => (cond v3 (call (Z53.R x0.fB) fun v4 => (cond v4 (ret ((x0.fA.ae.aT == x0.fB.ae.aT) : Bool)) (ret (false : Bool)))) (ret (false : Bool)))) (call (Z62.R (x0.av.ae, x0.fA)) fun v5 => (cond v5 (call (Z62.R (x0.av.ae, x0.fB)) fun v6 => ret (v6 : Bool)) (ret (false : Bool))))))))
def md (a0 : ao) : Bool := (cond (Z67.md a0.fA.ae a0.fB.ae) (false : Bool) (cond (Z97.md a0.av (⟨(⟨0, 0, 0, 0, 0, 0, 0, 0, (⟨[], 0⟩ : aw), (⟨[], 0⟩ : aw), 0, (⟨[], 0⟩ : aw), false⟩ : aq), []⟩ : aa)) (cond (Z53.md a0.fA) (cond (Z53.md a0.fB) ((a0.fA.ae.aT == a0.fB.ae.aT) : Bool) (false : Bool)) (false : Bool)) (cond (Z62.md a0.av.ae a0.fA) ((Z62.md a0.av.ae a0.fB) : Bool) (false : Bool))))
def gd (a0 : ao) : Prop := (ao.Sm (2 ^ 21) a0)
def R := RR gd md
theorem ai {a0} (h : gd a0) : R (ao.r a0) = some (md a0) := aE (a := a0) h
def aK := CN [.agg pN] oB RT.dec R
theorem okF (a0) (hg : gd a0) : F (ao.r a0) = ret (md a0) := by
  unfold gd at hg
  have H0 := hg
  unfold F md
  try simp only [SS]
  refine ct (Z67.ai ⟨H0.2.1.1, H0.2.2.1⟩) ?_
  refine ak ret (fun _ => rfl) (fun c1 => ?_)
  refine ct (Z97.ai (a1 := (⟨(⟨0, 0, 0, 0, 0, 0, 0, 0, (⟨[], 0⟩ : aw), (⟨[], 0⟩ : aw), 0, (⟨[], 0⟩ : aw), false⟩ : aq), []⟩ : aa)) ⟨H0.1, ⟨⟨bw.nil, bw.nil, bw.nil⟩, bw.nil⟩⟩) ?_
  refine ak ret (fun c2 => ?_) (fun c2 => ?_)
  · refine ct (Z53.ai H0.2.1) ?_
    refine ak ret (fun c3 => ?_) (fun _ => rfl)
    refine ct (Z53.ai H0.2.2) ?_
    refine ak ret (fun c4 => ?_) (fun _ => rfl)
    all_goals exact fz
  · refine ct (Z62.ai ⟨H0.1.1, H0.2.1⟩) ?_
    refine ak ret (fun c5 => ?_) (fun _ => rfl)
    refine ct (Z62.ai ⟨H0.1.1, H0.2.2⟩) ?_
    all_goals exact fz
theorem ab : Valid Tryz.prog Ev 191 aK := W1 47 F mix au okF (.cons Z67.ab (.cons Z97.ab (.cons Z53.ab (.cons Z62.ab .nil)))) Tryz.func191
end Z98
namespace Z99
def F (x0 : aZ) : ay := (call (Z98.R x0) fun v1 => (cond (!v1) (ret ((-1) : Int)) (ret (x0.fA.ae.aT : Int))))
def md (a0 : ao) : Int := (cond (!(Z98.md a0)) ((-1) : Int) (a0.fA.ae.aT : Int))
def gd (a0 : ao) : Prop := (ao.Sm (2 ^ 21) a0)
def R := RR gd md
theorem ai {a0} (h : gd a0) : R (ao.r a0) = some (md a0) := aE (a := a0) h
def aK := CN [.agg pN] oI RT.dec R
theorem okF (a0) (hg : gd a0) : F (ao.r a0) = ret (md a0) := by
 unfold gd at hg
 have H0 := hg
 unfold F md
 try simp only [SS]
 refine ct (Z98.ai H0) ?_
 refine ak ret (fun _ => rfl) (fun c1 => ?_)
 all_goals exact fz
theorem ab : Valid Tryz.prog Ev 141 aK := W1 10 F mix au okF (.cons Z98.ab .nil) Tryz.func141
end Z99
namespace Z100
inductive Pt where
 | p0 (a : Int) (b : Int) (c : aW)
def pid : Pt → Nat
 | .p0 .. => 2
def bR : Pt → List V
 | .p0 a b c => [.int .i64 a, .cC 0 0, .int .i64 b]
def bQ : Pt → List aI
 | .p0 a b c => [.box [.sl none 116 c.aA, .sl none 204 c.aR]]
def step (J : Pt → ay) : Pt → ay
 | .p0 a b c => (cond (decide (b < (c.aR.length : Int))) (m2 b (c.aR.length : Int) (call (Z99.R (aZ.at c.aR (Int.toNat b))) fun v1 => (cond (v1 == a) (cond (decide (a ≥ 0)) (ret (true : Bool)) (J (.p0 a (i64.wrap (b + 1)) c))) (J (.p0 a (i64.wrap (b + 1)) c))))) (ret (false : Bool)))
def start (J : Pt → ay) (x0 : aW) (x1 : Int) : ay := J (.p0 x1 0 x0)
def live : Nat → Live := fun i => match i with | 2 => [(1, none), (2, none), (5, none)] | _ => []
def md (a0 : ah) (a1 : Int) : Bool := (dG (S := Unit) (β := Bool) (fun (y1 : ao) (s3 : Unit) => (cond ((Z99.md y1) == a1) (cond (decide (a1 ≥ 0)) (.inr (true : Bool)) (.inl ())) (.inl ()))) (fun (s3 : Unit) => (false : Bool)) a0.aR ())
def gd (a0 : ah) (a1 : Int) : Prop := (ah.Sm (2 ^ 21) a0)
def R := RR (p2 gd) (u2 md)
theorem ai {a0 a1} (h : gd a0 a1) : R ((ah.r a0), a1) = some (md a0 a1) := aE (a := (a0, a1)) h
def aK := CN [.agg rh, pI] oB RT.dec R
theorem okF (a0) (a1) (hg : gd a0 a1) : ∃ n, start (iter step n) (ah.r a0) a1 = ret (md a0 a1) := by
  unfold gd at hg
  have H0 := hg
  unfold start md
  try simp only [SS]
  have Bh2 : a0.aR.length ≤ maxLen := (by
      have := (H0.2).1
      try simp only [maxLen] at *
      omega)
  refine dV (out := ret) (dO (z := ao.zero)) ?_
  refine dk (p := Pt.p0 a1 0 (ah.r a0)) fz ?_
  refine bP (pt := fun (i1 : Nat) (s3 : Unit) => Pt.p0 a1 (i1 : Int) (ah.r a0)) (s := (() : Unit)) (out := ret) (fun _ _ => True) (fun J i1 s3 h2 hih2 => ?_) (fun s3 hih2 => ?_) trivial
  · simp only [step, SS]
    have bb_ := Bh2
    simp only [maxLen] at bb_
    have := (H0.2).1
    refine aY.yes (by apply decide_eq_true; omega) ?_
    refine aY.yes ax ?_
    refine aY.yes (aD h2) ?_
    refine cr (Z99.ai (bw.getD (z := ao.zero) H0.2 h2)) ?_
    refine aY.bif (fun c4 => ?_) (fun c4 => ?_)
    · refine aY.bif (fun _ => aY.inr rfl) (fun c5 => ?_)
      refine aY.inl trivial ?_
      rw [az h2 Bh2]
      all_goals exact fz
    · refine aY.inl trivial ?_
      rw [az h2 Bh2]
      all_goals exact fz
  · simp only [step, SS]
    have := (H0.2).1
    refine dh (by apply decide_eq_false; omega) ?_
    refine ⟨0, ?_⟩
    all_goals exact fz
theorem ab : Valid Tryz.prog Ev 72 aK := L2 25 pid bR bQ live step start mix au okF (.cons Z99.ab .nil) Tryz.func72
end Z100
namespace Z101
def F (x0 : List (List L)) : ay := (bJ (dU ((x0.length : Int) * 16)) (ret (x0 : List (List L))))
def md (a0 : List ByteArray) : List ByteArray := a0
def gd (a0 : List ByteArray) : Prop := (bw (2 ^ 21) (fun y : ByteArray => y.size ≤ (2 ^ 21)) a0)
def R := RR gd md
theorem ai {a0} (h : gd a0) : R (a0.map cu) = some (a0.map cu) := aE (a := a0) h
def aK := CN [pL 9] (oL 9) RT.dec R
theorem okF (a0) (hg : gd a0) : F (a0.map cu) = ret ((md a0).map cu) := by
 unfold gd at hg
 have H0 := hg
 unfold F md
 try simp only [SS]
 refine af (have := (H0).1; lm) ?_
 all_goals exact fz
theorem ab : Valid Tryz.prog Ev 93 aK := W1 6 F mix au okF .nil Tryz.func93
end Z101
namespace Z102
def F (x0 : bA) : ay := (call (Z101.R x0.aU) fun v1 => ret ((⟨x0.aV, x0.bg, x0.bE, v1⟩ : bA) : bA))
def md (a0 : aj) : aj := a0
def gd (a0 : aj) : Prop := (aj.Sm (2 ^ 21) a0)
def R := RR gd md
theorem ai {a0} (h : gd a0) : R (aj.r a0) = some (aj.r a0) := aE (a := a0) h
def aK := CN [.agg nM] (.agg f35) RT.dec R
theorem okF (a0) (hg : gd a0) : F (aj.r a0) = ret (aj.r (md a0)) := by
 unfold gd at hg
 have H0 := hg
 unfold F md
 try simp only [SS]
 refine ct (Z101.ai H0.2) ?_
 try simp only [SS]
 all_goals exact fz
theorem ab : Valid Tryz.prog Ev 73 aK := W1 13 F mix au okF (.cons Z101.ab .nil) Tryz.func73
end Z102
end Go.DM
end
