/- What the functions compute that the law reaches, and that the law returns true. Conditions: none. -/
import Derived.Test.YtknikjmcpjaggaaGreatResolvePetTy
import Derived.Test.YtknikjmcpjaggaaGreatProg
import Derived.Lib.AppendZerosOnto
import Derived.Lib.Bytealg
import Derived.Laws.Externs
import Derived.Lib.Walk
import Derived.Lib.Hide
import Derived.Lib.Strings
set_option linter.all false
set_option maxRecDepth 100000
noncomputable section
namespace Go.DM
open Go.Proofs
open Go.IntKind (i64)
open Int (toNat)
open Nat (le_trans zero_le)
abbrev aB:=K.int .i64
abbrev bz:=ret (false:Bool)
abbrev k7:List K:=[aB,aB,.bool,.int .u8]
abbrev f7:List Lf:=[fI,fI,fB,.rd (.int .u8)]
abbrev k8:List K:=[aB,aB,.bool,.int .u8]
abbrev f8:List Lf:=[fI,fI,fB,.rd (.int .u8)]
abbrev k13:List K:=[.str,.int .u64]
abbrev f13:List Lf:=[fS,.rd (.int .u64)]
abbrev k14:List K:=[.str,.int .u64]
abbrev f14:List Lf:=[fS,.rd (.int .u64)]
abbrev k24:List K:=[.sl 338,.sl 347]
abbrev f24:List Lf:=[.fr 338,.fr 347]
abbrev k25:List K:=[.sl 338,.sl 347]
abbrev f25:List Lf:=[.fr 338,.fr 347]
abbrev Cp:List K:=[.sl 92,.sl 280]
abbrev f36:List Lf:=[.fr 92,.fr 280]
abbrev rT:List K:=[.sl 92,.sl 280]
abbrev f37:List Lf:=[.fr 92,.fr 280]
abbrev Cq:List K:=[.sl 364]
abbrev f57:List Lf:=[.fr 364]
abbrev Cw:List K:=[.sl 364]
abbrev f58:List Lf:=[.fr 364]
abbrev Co:List K:=[.str,aB,aB,.sl 9]
abbrev f60:List Lf:=[fS,fI,fI,.fr 9]
abbrev rE:List K:=[.str,aB,aB,.sl 9]
abbrev f61:List Lf:=[fS,fI,fI,.fr 9]
abbrev Cn:List K:=[.sl 92,.sl 280,aB,.str,aB,aB,.sl 9,.sl 3,aB]
abbrev f63:List Lf:=[.fr 92,.fr 280,fI,fS,fI,fI,.fr 9,.fr 3,fI]
abbrev Bs:List K:=[.sl 92,.sl 280,aB,.str,aB,aB,.sl 9,.sl 3,aB]
abbrev f64:List Lf:=[.fr 92,.fr 280,fI,fS,fI,fI,.fr 9,.fr 3,fI]
abbrev Cs:List K:=[.sl 145]
abbrev f67:List Lf:=[.fr 145]
abbrev CA:List K:=[.sl 145]
abbrev f68:List Lf:=[.fr 145]
abbrev Ct:List K:=[.sl 92,.sl 280,aB,.str,aB,aB,.sl 9,.sl 3,aB,.sl 145]
abbrev f84:List Lf:=[.fr 92,.fr 280,fI,fS,fI,fI,.fr 9,.fr 3,fI,.fr 145]
abbrev Cv:List K:=[.sl 92,.sl 280,aB,.str,aB,aB,.sl 9,.sl 3,aB,.sl 145]
abbrev f85:List Lf:=[.fr 92,.fr 280,fI,fS,fI,fI,.fr 9,.fr 3,fI,.fr 145]
abbrev Cr:List K:=[.sl 3,aB]
abbrev f97:List Lf:=[.fr 3,fI]
abbrev qa:List K:=[.sl 3,aB]
abbrev f98:List Lf:=[.fr 3,fI]
abbrev B0:List K:=[aB,aB,aB,aB,aB,aB,aB,aB,.sl 3,aB,.sl 3,aB,aB,.sl 3,aB,.bool]
abbrev f101:List Lf:=[fI,fI,fI,fI,fI,fI,fI,fI,.fr 3,fI,.fr 3,fI,fI,.fr 3,fI,fB]
abbrev gi:List K:=[aB,aB,aB,aB,aB,aB,aB,aB,.sl 3,aB,.sl 3,aB,aB,.sl 3,aB,.bool]
abbrev f102:List Lf:=[fI,fI,fI,fI,fI,fI,fI,fI,.fr 3,fI,.fr 3,fI,fI,.fr 3,fI,fB]
abbrev BJ:List K:=[aB,.sl 3,aB,aB]
abbrev f107:List Lf:=[fI,.fr 3,fI,fI]
abbrev BH:List K:=[aB,.sl 3,aB,aB]
abbrev f108:List Lf:=[fI,.fr 3,fI,fI]
abbrev BA:List K:=[aB,aB,aB,aB,aB,aB,aB,aB,.sl 3,aB,.sl 3,aB,aB,.sl 3,aB,.bool,.sl 428]
abbrev f122:List Lf:=[fI,fI,fI,fI,fI,fI,fI,fI,.fr 3,fI,.fr 3,fI,fI,.fr 3,fI,fB,.fr 428]
abbrev kI:List K:=[aB,aB,aB,aB,aB,aB,aB,aB,.sl 3,aB,.sl 3,aB,aB,.sl 3,aB,.bool,.sl 428]
abbrev f123:List Lf:=[fI,fI,fI,fI,fI,fI,fI,fI,.fr 3,fI,.fr 3,fI,fI,.fr 3,fI,fB,.fr 428]
abbrev BG:List K:=[aB,.sl 3]
abbrev f127:List Lf:=[fI,.fr 3]
abbrev rB:List K:=[aB,.sl 3]
abbrev f128:List Lf:=[fI,.fr 3]
abbrev BV:List K:=[aB,.str,aB,aB,.sl 9,.str,aB,aB,.sl 9,aB,.sl 3,aB,.sl 3]
abbrev f129:List Lf:=[fI,fS,fI,fI,.fr 9,fS,fI,fI,.fr 9,fI,.fr 3,fI,.fr 3]
abbrev vX:List K:=[aB,.str,aB,aB,.sl 9,.str,aB,aB,.sl 9,aB,.sl 3,aB,.sl 3]
abbrev f130:List Lf:=[fI,fS,fI,fI,.fr 9,fS,fI,fI,.fr 9,fI,.fr 3,fI,.fr 3]
abbrev BR:List K:=[.sl 123,.bool,.str,aB,aB,.sl 9,aB,.sl 3,aB,.str,aB,aB,.sl 9,.str,aB,aB,.sl 9,aB,.sl 3,aB,.sl 3]
abbrev f131:List Lf:=[.fr 123,fB,fS,fI,fI,.fr 9,fI,.fr 3,fI,fS,fI,fI,.fr 9,fS,fI,fI,.fr 9,fI,.fr 3,fI,.fr 3]
abbrev yz:List K:=[.sl 123,.bool,.str,aB,aB,.sl 9,aB,.sl 3,aB,.str,aB,aB,.sl 9,.str,aB,aB,.sl 9,aB,.sl 3,aB,.sl 3]
abbrev f132:List Lf:=[.fr 123,fB,fS,fI,fI,.fr 9,fI,.fr 3,fI,fS,fI,fI,.fr 9,fS,fI,fI,.fr 9,fI,.fr 3,fI,.fr 3]
abbrev BD:List K:=[aB,.str,.sl 123,.bool,.str,aB,aB,.sl 9,aB,.sl 3,aB,.str,aB,aB,.sl 9,.str,aB,aB,.sl 9,aB,.sl 3,aB,.sl 3]
abbrev f144:List Lf:=[fI,fS,.fr 123,fB,fS,fI,fI,.fr 9,fI,.fr 3,fI,fS,fI,fI,.fr 9,fS,fI,fI,.fr 9,fI,.fr 3,fI,.fr 3]
abbrev BF:List K:=[aB,.str,.sl 123,.bool,.str,aB,aB,.sl 9,aB,.sl 3,aB,.str,aB,aB,.sl 9,.str,aB,aB,.sl 9,aB,.sl 3,aB,.sl 3]
abbrev f145:List Lf:=[fI,fS,.fr 123,fB,fS,fI,fI,.fr 9,fI,.fr 3,fI,fS,fI,fI,.fr 9,fS,fI,fI,.fr 9,fI,.fr 3,fI,.fr 3]
abbrev B4:List K:=[aB,.str,aB,aB,.sl 9,.sl 61]
abbrev f150:List Lf:=[fI,fS,fI,fI,.fr 9,.fr 61]
abbrev BC:List K:=[aB,.str,aB,aB,.sl 9,.sl 61]
abbrev f151:List Lf:=[fI,fS,fI,fI,.fr 9,.fr 61]
abbrev BP:List K:=[.sl 92,.sl 280,.bool,.str,aB,aB,.sl 9,.bool,.sl 3]
abbrev f168:List Lf:=[.fr 92,.fr 280,fB,fS,fI,fI,.fr 9,fB,.fr 3]
abbrev Ai:List K:=[.sl 92,.sl 280,.bool,.str,aB,aB,.sl 9,.bool,.sl 3]
abbrev f169:List Lf:=[.fr 92,.fr 280,fB,fS,fI,fI,.fr 9,fB,.fr 3]
abbrev Bv:List K:=[.str,aB]
abbrev f206:List Lf:=[fS,fI]
abbrev As:List K:=[.str,aB]
abbrev f207:List Lf:=[fS,fI]
abbrev Bw:List K:=[.sl 423,aB]
abbrev f217:List Lf:=[.fr 423,fI]
abbrev Au:List K:=[.sl 423,aB]
abbrev f218:List Lf:=[.fr 423,fI]
abbrev Bu:List K:=[.str,aB]
abbrev f220:List Lf:=[fS,fI]
abbrev Cf:List K:=[.str,aB]
abbrev f222:List Lf:=[fS,fI]
abbrev B3:List K:=[.sl 293,aB]
abbrev f226:List Lf:=[.fr 293,fI]
abbrev yU:List K:=[.sl 293,aB]
abbrev f227:List Lf:=[.fr 293,fI]
abbrev Aj:List K:=[.str,aB]
abbrev f245:List Lf:=[fS,fI]
abbrev Ce:List K:=[aB,aB,aB,aB,aB,aB,aB,aB,.sl 3,aB,.sl 3,aB,aB,.sl 3,aB,.bool,.sl 428,aB,aB,aB,aB,aB,aB,aB,aB,.sl 3,aB,.sl 3,aB,aB,.sl 3,aB,.bool,.sl 428,aB,aB,aB,aB,aB,aB,aB,aB,.sl 3,aB,.sl 3,aB,aB,.sl 3,aB,.bool,.sl 428]
abbrev f279:List Lf:=[fI,fI,fI,fI,fI,fI,fI,fI,.fr 3,fI,.fr 3,fI,fI,.fr 3,fI,fB,.fr 428,fI,fI,fI,fI,fI,fI,fI,fI,.fr 3,fI,.fr 3,fI,fI,.fr 3,fI,fB,.fr 428,fI,fI,fI,fI,fI,fI,fI,fI,.fr 3,fI,.fr 3,fI,fI,.fr 3,fI,fB,.fr 428]
abbrev tH:List K:=[aB,aB,aB,aB,aB,aB,aB,aB,.sl 3,aB,.sl 3,aB,aB,.sl 3,aB,.bool,.sl 428,aB,aB,aB,aB,aB,aB,aB,aB,.sl 3,aB,.sl 3,aB,aB,.sl 3,aB,.bool,.sl 428,aB,aB,aB,aB,aB,aB,aB,aB,.sl 3,aB,.sl 3,aB,aB,.sl 3,aB,.bool,.sl 428]
abbrev f280:List Lf:=[fI,fI,fI,fI,fI,fI,fI,fI,.fr 3,fI,.fr 3,fI,fI,.fr 3,fI,fB,.fr 428,fI,fI,fI,fI,fI,fI,fI,fI,.fr 3,fI,.fr 3,fI,fI,.fr 3,fI,fB,.fr 428,fI,fI,fI,fI,fI,fI,fI,fI,.fr 3,fI,.fr 3,fI,fI,.fr 3,fI,fB,.fr 428]
abbrev BQ:List K:=[.sl 123,.sl 61]
abbrev f292:List Lf:=[.fr 123,.fr 61]
abbrev sU:List K:=[.sl 123,.sl 61]
abbrev f293:List Lf:=[.fr 123,.fr 61]
abbrev BW:List K:=[.sl 9,.str,aB,aB,.sl 9]
abbrev f317:List Lf:=[.fr 9,fS,fI,fI,.fr 9]
abbrev Cc:List K:=[.sl 9,.str,aB,aB,.sl 9]
abbrev f318:List Lf:=[.fr 9,fS,fI,fI,.fr 9]
abbrev AQ:List K:=[.sl 3,aB]
abbrev f340:List Lf:=[.fr 3,fI]
abbrev B7:List K:=[aB,aB,aB,aB,aB,aB,aB,aB,.sl 3,aB,.sl 3,aB,aB,.sl 3,aB,.bool]
abbrev f341:List Lf:=[fI,fI,fI,fI,fI,fI,fI,fI,.fr 3,fI,.fr 3,fI,fI,.fr 3,fI,fB]
abbrev Ak:List K:=[aB,aB,aB,aB,aB,aB,aB,aB,.sl 3,aB,.sl 3,aB,aB,.sl 3,aB,.bool]
abbrev f342:List Lf:=[fI,fI,fI,fI,fI,fI,fI,fI,.fr 3,fI,.fr 3,fI,fI,.fr 3,fI,fB]
abbrev Cg:List K:=[aB,aB,aB,aB,aB,aB,aB,aB,.sl 3,aB,.sl 3,aB,aB,.sl 3,aB,.bool,.sl 516]
abbrev f344:List Lf:=[fI,fI,fI,fI,fI,fI,fI,fI,.fr 3,fI,.fr 3,fI,fI,.fr 3,fI,fB,.fr 516]
abbrev AV:List K:=[aB,aB,aB,aB,aB,aB,aB,aB,.sl 3,aB,.sl 3,aB,aB,.sl 3,aB,.bool,.sl 516]
abbrev f345:List Lf:=[fI,fI,fI,fI,fI,fI,fI,fI,.fr 3,fI,.fr 3,fI,fI,.fr 3,fI,fB,.fr 516]
abbrev BX:List K:=[aB,aB,aB,aB,aB,aB,aB,aB,.sl 3,aB,.sl 3,aB,aB,.sl 3,aB,.bool,.sl 516,aB,aB,aB,aB,aB,aB,aB,aB,.sl 3,aB,.sl 3,aB,aB,.sl 3,aB,.bool,.sl 516,aB,aB,aB,aB,aB,aB,aB,aB,.sl 3,aB,.sl 3,aB,aB,.sl 3,aB,.bool,.sl 516]
abbrev f346:List Lf:=[fI,fI,fI,fI,fI,fI,fI,fI,.fr 3,fI,.fr 3,fI,fI,.fr 3,fI,fB,.fr 516,fI,fI,fI,fI,fI,fI,fI,fI,.fr 3,fI,.fr 3,fI,fI,.fr 3,fI,fB,.fr 516,fI,fI,fI,fI,fI,fI,fI,fI,.fr 3,fI,.fr 3,fI,fI,.fr 3,fI,fB,.fr 516]
abbrev Ax:List K:=[aB,aB,aB,aB,aB,aB,aB,aB,.sl 3,aB,.sl 3,aB,aB,.sl 3,aB,.bool,.sl 516,aB,aB,aB,aB,aB,aB,aB,aB,.sl 3,aB,.sl 3,aB,aB,.sl 3,aB,.bool,.sl 516,aB,aB,aB,aB,aB,aB,aB,aB,.sl 3,aB,.sl 3,aB,aB,.sl 3,aB,.bool,.sl 516]
abbrev f347:List Lf:=[fI,fI,fI,fI,fI,fI,fI,fI,.fr 3,fI,.fr 3,fI,fI,.fr 3,fI,fB,.fr 516,fI,fI,fI,fI,fI,fI,fI,fI,.fr 3,fI,.fr 3,fI,fI,.fr 3,fI,fB,.fr 516,fI,fI,fI,fI,fI,fI,fI,fI,.fr 3,fI,.fr 3,fI,fI,.fr 3,fI,fB,.fr 516]
abbrev Az:List K:=[.str,aB,aB,.sl 9]
abbrev f357:List Lf:=[fS,fI,fI,.fr 9]
abbrev BK:List K:=[aB,.sl 3]
abbrev f358:List Lf:=[fI,.fr 3]
abbrev B8:List K:=[aB,.str,aB,aB,.sl 9,.str,aB,aB,.sl 9,aB,.sl 3,aB,.sl 3]
abbrev f359:List Lf:=[fI,fS,fI,fI,.fr 9,fS,fI,fI,.fr 9,fI,.fr 3,fI,.fr 3]
abbrev BT:List K:=[aB,.str,aB,aB,.sl 9,.str,aB,aB,.sl 9,aB,.sl 3,aB,.sl 3]
abbrev f360:List Lf:=[fI,fS,fI,fI,.fr 9,fS,fI,fI,.fr 9,fI,.fr 3,fI,.fr 3]
abbrev B2:List K:=[.sl 345,.bool,.str,aB,aB,.sl 9,aB,.sl 3,aB,.str,aB,aB,.sl 9,.str,aB,aB,.sl 9,aB,.sl 3,aB,.sl 3]
abbrev f361:List Lf:=[.fr 345,fB,fS,fI,fI,.fr 9,fI,.fr 3,fI,fS,fI,fI,.fr 9,fS,fI,fI,.fr 9,fI,.fr 3,fI,.fr 3]
abbrev B9:List K:=[.sl 345,.bool,.str,aB,aB,.sl 9,aB,.sl 3,aB,.str,aB,aB,.sl 9,.str,aB,aB,.sl 9,aB,.sl 3,aB,.sl 3]
abbrev f362:List Lf:=[.fr 345,fB,fS,fI,fI,.fr 9,fI,.fr 3,fI,fS,fI,fI,.fr 9,fS,fI,fI,.fr 9,fI,.fr 3,fI,.fr 3]
abbrev Bx:List K:=[aB,.str,.sl 345,.bool,.str,aB,aB,.sl 9,aB,.sl 3,aB,.str,aB,aB,.sl 9,.str,aB,aB,.sl 9,aB,.sl 3,aB,.sl 3]
abbrev f363:List Lf:=[fI,fS,.fr 345,fB,fS,fI,fI,.fr 9,fI,.fr 3,fI,fS,fI,fI,.fr 9,fS,fI,fI,.fr 9,fI,.fr 3,fI,.fr 3]
abbrev B5:List K:=[aB,.str,.sl 345,.bool,.str,aB,aB,.sl 9,aB,.sl 3,aB,.str,aB,aB,.sl 9,.str,aB,aB,.sl 9,aB,.sl 3,aB,.sl 3]
abbrev f364:List Lf:=[fI,fS,.fr 345,fB,fS,fI,fI,.fr 9,fI,.fr 3,fI,fS,fI,fI,.fr 9,fS,fI,fI,.fr 9,fI,.fr 3,fI,.fr 3]
abbrev Cd:List K:=[.sl 5,aB,aB]
abbrev f375:List Lf:=[.fr 5,fI,fI]
abbrev Ci:List K:=[.sl 5,aB,aB]
abbrev f376:List Lf:=[.fr 5,fI,fI]
abbrev BU:List K:=[.sl 345,.sl 357]
abbrev f422:List Lf:=[.fr 345,.fr 357]
abbrev Aq:List K:=[.sl 345,.sl 357]
abbrev f423:List Lf:=[.fr 345,.fr 357]
abbrev BI:List K:=[aB,aB]
abbrev f427:List Lf:=[fI,fI]
abbrev xZ:List K:=[aB,aB]
abbrev f428:List Lf:=[fI,fI]
abbrev Ch:List K:=[.int .i32,.int .u32]
abbrev f487:List Lf:=[.rd (.int .i32),.rd (.int .u32)]
abbrev B1:List K:=[.int .i32,.int .u32]
abbrev f488:List Lf:=[.rd (.int .i32),.rd (.int .u32)]
abbrev A4:List K:=[aB,aB]
abbrev f516:List Lf:=[fI,fI]
def kG:List (Nat×TI):=[
 (2,⟨[aB],false,[],8,false⟩),
 (3,⟨[aB],false,[],8,false⟩),
 (4,⟨[.bool],false,[],1,false⟩),
 (5,⟨[.int .u8],false,[],1,false⟩),
 (6,⟨[.int .u8],false,[],1,false⟩),
 (7,⟨k7,true,[(0,2),(1,3),(2,4),(3,6)],24,false⟩),
 (8,⟨k8,true,[(0,2),(1,3),(2,4),(3,6)],24,false⟩),
 (9,⟨[.str],false,[],16,false⟩),
 (10,⟨[.str],false,[],16,false⟩),
 (11,⟨[.str],false,[],16,false⟩),
 (12,⟨[.int .u64],false,[],8,false⟩),
 (13,⟨k13,true,[(0,9),(1,12)],24,false⟩),
 (14,⟨k14,true,[(0,9),(1,12)],24,false⟩),
 (21,⟨[.int .i32],false,[],4,false⟩),
 (22,⟨[.sl 338],false,[],24,false⟩),
 (23,⟨[.sl 347],false,[],24,false⟩),
 (24,⟨k24,true,[(0,22),(1,23)],48,false⟩),
 (25,⟨k25,true,[(0,22),(1,23)],48,false⟩),
 (26,⟨[.sl 218],false,[],24,false⟩),
 (27,⟨[.sl 220],false,[],24,false⟩),
 (28,⟨[.sl 9],false,[],24,false⟩),
 (33,⟨[.sl 64],false,[],24,false⟩),
 (34,⟨[.sl 92],false,[],24,false⟩),
 (35,⟨[.sl 280],false,[],24,false⟩),
 (36,⟨Cp,true,[(0,34),(1,35)],48,false⟩),
 (37,⟨rT,true,[(0,34),(1,35)],48,false⟩),
 (41,⟨[.sl 227],false,[],24,false⟩),
 (43,⟨[.sl 222],false,[],24,false⟩),
 (56,⟨[.sl 364],false,[],24,false⟩),
 (57,⟨Cq,true,[(0,56)],24,false⟩),
 (58,⟨Cw,true,[(0,56)],24,false⟩),
 (60,⟨Co,true,[(0,9),(1,3),(2,3),(3,28)],56,false⟩),
 (61,⟨rE,true,[(0,9),(1,3),(2,3),(3,28)],56,false⟩),
 (62,⟨[.sl 3],false,[],24,false⟩),
 (63,⟨Cn,true,[(0,37),(2,3),(3,61),(7,62),(8,3)],144,false⟩),
 (64,⟨Bs,true,[(0,37),(2,3),(3,61),(7,62),(8,3)],144,false⟩),
 (66,⟨[.sl 145],false,[],24,false⟩),
 (67,⟨Cs,true,[(0,66)],24,false⟩),
 (68,⟨CA,true,[(0,66)],24,false⟩),
 (75,⟨[.sl 245],false,[],24,false⟩),
 (77,⟨[.sl 207],false,[],24,false⟩),
 (84,⟨Ct,true,[(0,64),(9,68)],168,false⟩),
 (85,⟨Cv,true,[(0,64),(9,68)],168,false⟩),
 (90,⟨[.sl 5],false,[],24,false⟩),
 (92,⟨[.sl 123],false,[],24,false⟩),
 (95,⟨[.sl 108],false,[],24,false⟩),
 (97,⟨Cr,true,[(0,62),(1,3)],32,false⟩),
 (98,⟨qa,true,[(0,62),(1,3)],32,false⟩),
 (101,⟨B0,true,[(0,3),(1,3),(2,3),(3,3),(4,3),(5,3),(6,3),(7,3),(8,98),(10,98),(12,3),(13,98),(15,4)],176,false⟩),
 (102,⟨gi,true,[(0,3),(1,3),(2,3),(3,3),(4,3),(5,3),(6,3),(7,3),(8,98),(10,98),(12,3),(13,98),(15,4)],176,false⟩),
 (107,⟨BJ,true,[(0,3),(1,98),(3,3)],48,false⟩),
 (108,⟨BH,true,[(0,3),(1,98),(3,3)],48,false⟩),
 (121,⟨[.sl 428],false,[],24,false⟩),
 (122,⟨BA,true,[(0,102),(16,121)],200,false⟩),
 (123,⟨kI,true,[(0,102),(16,121)],200,false⟩),
 (127,⟨BG,true,[(0,3),(1,62)],32,false⟩),
 (128,⟨rB,true,[(0,3),(1,62)],32,false⟩),
 (129,⟨BV,true,[(0,3),(1,61),(5,61),(9,128),(11,128)],184,false⟩),
 (130,⟨vX,true,[(0,3),(1,61),(5,61),(9,128),(11,128)],184,false⟩),
 (131,⟨BR,true,[(0,92),(1,4),(2,61),(6,128),(8,130)],304,false⟩),
 (132,⟨yz,true,[(0,92),(1,4),(2,61),(6,128),(8,130)],304,false⟩),
 (144,⟨BD,true,[(0,3),(1,9),(2,132)],328,false⟩),
 (145,⟨BF,true,[(0,3),(1,9),(2,132)],328,false⟩),
 (146,⟨[.sl 318],false,[],24,false⟩),
 (149,⟨[.sl 61],false,[],24,false⟩),
 (150,⟨B4,true,[(0,3),(1,61),(5,149)],88,false⟩),
 (151,⟨BC,true,[(0,3),(1,61),(5,149)],88,false⟩),
 (165,⟨[.sl 132],false,[],24,false⟩),
 (168,⟨BP,true,[(0,37),(2,4),(3,61),(7,4),(8,62)],144,false⟩),
 (169,⟨Ai,true,[(0,37),(2,4),(3,61),(7,4),(8,62)],144,false⟩),
 (186,⟨[.sl 62],false,[],24,false⟩),
 (206,⟨Bv,true,[(0,9),(1,3)],24,false⟩),
 (207,⟨As,true,[(0,9),(1,3)],24,true⟩),
 (216,⟨[.sl 423],false,[],24,false⟩),
 (217,⟨Bw,true,[(0,216),(1,3)],32,false⟩),
 (218,⟨Au,true,[(0,216),(1,3)],32,false⟩),
 (220,⟨Bu,true,[(0,9),(1,3)],24,true⟩),
 (222,⟨Cf,true,[(0,9),(1,3)],24,true⟩),
 (225,⟨[.sl 293],false,[],24,false⟩),
 (226,⟨B3,true,[(0,225),(1,3)],32,false⟩),
 (227,⟨yU,true,[(0,225),(1,3)],32,false⟩),
 (245,⟨Aj,true,[(0,9),(1,3)],24,true⟩),
 (279,⟨Ce,true,[(0,123),(17,123),(34,123)],600,false⟩),
 (280,⟨tH,true,[(0,123),(17,123),(34,123)],600,false⟩),
 (292,⟨BQ,true,[(0,92),(1,149)],48,false⟩),
 (293,⟨sU,true,[(0,92),(1,149)],48,false⟩),
 (317,⟨BW,true,[(0,28),(1,61)],80,false⟩),
 (318,⟨Cc,true,[(0,28),(1,61)],80,false⟩),
 (338,⟨[.sl 345],false,[],24,false⟩),
 (340,⟨AQ,true,[(0,62),(1,3)],32,false⟩),
 (341,⟨B7,true,[(0,3),(1,3),(2,3),(3,3),(4,3),(5,3),(6,3),(7,3),(8,340),(10,340),(12,3),(13,340),(15,4)],176,false⟩),
 (342,⟨Ak,true,[(0,3),(1,3),(2,3),(3,3),(4,3),(5,3),(6,3),(7,3),(8,340),(10,340),(12,3),(13,340),(15,4)],176,false⟩),
 (343,⟨[.sl 516],false,[],24,false⟩),
 (344,⟨Cg,true,[(0,342),(16,343)],200,false⟩),
 (345,⟨AV,true,[(0,342),(16,343)],200,false⟩),
 (346,⟨BX,true,[(0,345),(17,345),(34,345)],600,false⟩),
 (347,⟨Ax,true,[(0,345),(17,345),(34,345)],600,false⟩),
 (357,⟨Az,true,[(0,9),(1,3),(2,3),(3,28)],56,false⟩),
 (358,⟨BK,true,[(0,3),(1,62)],32,false⟩),
 (359,⟨B8,true,[(0,3),(1,357),(5,357),(9,358),(11,358)],184,false⟩),
 (360,⟨BT,true,[(0,3),(1,357),(5,357),(9,358),(11,358)],184,false⟩),
 (361,⟨B2,true,[(0,338),(1,4),(2,357),(6,358),(8,360)],304,false⟩),
 (362,⟨B9,true,[(0,338),(1,4),(2,357),(6,358),(8,360)],304,false⟩),
 (363,⟨Bx,true,[(0,3),(1,9),(2,362)],328,false⟩),
 (364,⟨B5,true,[(0,3),(1,9),(2,362)],328,false⟩),
 (375,⟨Cd,true,[(0,90),(1,3),(2,3)],40,false⟩),
 (376,⟨Ci,true,[(0,90),(1,3),(2,3)],40,false⟩),
 (421,⟨[.sl 357],false,[],24,false⟩),
 (422,⟨BU,true,[(0,338),(1,421)],48,false⟩),
 (423,⟨Aq,true,[(0,338),(1,421)],48,false⟩),
 (427,⟨BI,true,[(0,3),(1,3)],16,false⟩),
 (428,⟨xZ,true,[(0,3),(1,3)],16,true⟩),
 (445,⟨[.int .u64],false,[],8,false⟩),
 (484,⟨[.int .u32],false,[],4,false⟩),
 (487,⟨Ch,true,[(0,21),(1,484)],8,false⟩),
 (488,⟨B1,true,[(0,21),(1,484)],8,false⟩),
 (516,⟨A4,true,[(0,3),(1,3)],16,true⟩),
 (579,⟨[.int .u8],false,[],1,false⟩),
 (580,⟨[.int .u8],false,[],1,false⟩),
 (583,⟨[.int .i32],false,[],4,false⟩),
 (584,⟨[.int .i32],false,[],4,false⟩),
 (600,⟨[.sl 5],false,[],24,false⟩)]
abbrev Ev:Env:=dI kG
def aF:eN Tryz.prog kG=true:=by kernel_rfl
def mix:Tryz.prog.follows .mixedOrders=true:=by kernel_rfl
abbrev cz:=Valid Tryz.prog Ev
namespace Z0
def F (x0:aE)(x1:Int):aI:=(cond (decide ((i64.wrap (x1 - (x0.length:Int)))<0)) (ret ((-1):Int)) (ret ((i64.wrap (x1 - (x0.length:Int))):Int)))
def md (a0:List Int)(a1:Int):Int:=iS (dU (fun y:Int=>0) a0) a1
def gd (a0:List Int)(a1:Int):Prop:=(bM maxLen (fun y:Int=>True) a0)/\0<=a1/\a1<=1048576
def R:=RR (p2 gd) (u2 md)
def aj {a0 a1}(h:gd a0 a1):R ((a0.map bk),a1)=some (md a0 a1):=aP (a:=(a0,a1)) h
def aW:=CN [pL 3,pI] oI RT.dec R
def bt (a0)(a1)(hg:gd a0 a1):F (a0.map bk) a1=ret (md a0 a1):=by
 obtain ⟨hs,g0,g1⟩:=hg
 unfold F md
 rw [List.length_map,lT g0 g1 hs.1]
 have e:dU (fun y:Int=>0) a0=a0.length:=by
  unfold dU
  have :(a0.map (fun y:Int=>0)).sum=0:=qm (fun _=>rfl) a0
  omega
 rw [e]
 by_cases hc:a1<((a0.length:Nat):Int)
 ·rw [cQ hc,decide_eq_true (by omega)];rfl
 ·rw [dB hc,decide_eq_false (by omega)];rfl
def af:cz 555 aW:=W2 12 F mix aF bt .nil Tryz.func555
end Z0
namespace Z1
def F (x0:bE)(x1:Int):aI:=(call (Z0.R (x0.aX,x1)) fun v1=>(cond (decide (v1<0)) (ret ((-1):Int)) (ret (v1:Int))))
def md (a0:aM)(a1:Int):Int:=iS (aM.size a0) a1
def gd (a0:aM)(a1:Int):Prop:=(aM.Sm maxLen a0)/\0<=a1/\a1<=1048576
def R:=RR (p2 gd) (u2 md)
def aj {a0 a1}(h:gd a0 a1):R ((aM.r a0),a1)=some (md a0 a1):=aP (a:=(a0,a1)) h
def aW:=CN [.agg AQ,pI] oI RT.dec R
def bt (a0)(a1)(hg:gd a0 a1):F (aM.r a0) a1=ret (md a0 a1):=by
 obtain ⟨hs,g0,g1⟩:=hg
 unfold md
 show (call (Z0.R ((a0.aX.map bk),a1)) fun v1=>(cond (decide (v1<0)) (ret ((-1):Int)) (ret (v1:Int))))=_
 rw [call_eq (Z0.aj (a1:=a1) ⟨hs,by omega,by omega⟩)]
 unfold Z0.md
 by_cases c0:a1<((dU (fun y:Int=>0) a0.aX:Nat):Int)
 ·rw [cQ c0];rw [show iS (aM.size a0) a1=-1 from cQ (by unfold aM.size;omega)];try rfl
 rw [dB c0,dA (by omega),bq]
 rw [show iS (aM.size a0) a1=a1 - ((dU (fun y:Int=>0) a0.aX:Nat):Int) from by rw [dB (by unfold aM.size;omega)];unfold aM.size;omega]
def af:cz 550 aW:=W2 12 F mix aF bt (.cons Z0.af .nil) Tryz.func550
end Z1
namespace Z2
def F (x0:cg)(x1:Int):aI:=(call (Z1.R (x0.bP,x1)) fun v1=>(cond (decide (v1<0)) (ret ((-1):Int)) (call (Z1.R (x0.bD,v1)) fun v2=>(cond (decide (v2<0)) (ret ((-1):Int)) (call (Z1.R (x0.bA,v2)) fun v3=>(cond (decide (v3<0)) (ret ((-1):Int)) (ret (v3:Int))))))))
def md (a0:aG)(a1:Int):Int:=iS (aG.size a0) a1
def gd (a0:aG)(a1:Int):Prop:=(aG.Sm maxLen a0)/\0<=a1/\a1<=1048576
def R:=RR (p2 gd) (u2 md)
def aj {a0 a1}(h:gd a0 a1):R ((aG.r a0),a1)=some (md a0 a1):=aP (a:=(a0,a1)) h
def aW:=CN [.agg Ak,pI] oI RT.dec R
def bt (a0)(a1)(hg:gd a0 a1):F (aG.r a0) a1=ret (md a0 a1):=by
 obtain ⟨hs,g0,g1⟩:=hg
 unfold md
 show (call (Z1.R ((aM.r a0.bP),a1)) fun v1=>(bif (decide (v1<0)) then ret ((-1):Int) else (call (Z1.R ((aM.r a0.bD),v1)) fun v2=>(bif (decide (v2<0)) then ret ((-1):Int) else (call (Z1.R ((aM.r a0.bA),v2)) fun v3=>(cond (decide (v3<0)) (ret ((-1):Int)) (ret (v3:Int))))))))=_
 rw [call_eq (Z1.aj (a1:=a1) ⟨hs.1,by omega,by omega⟩)]
 unfold Z1.md
 by_cases c0:a1<((aM.size a0.bP:Nat):Int)
 ·rw [cQ c0];rw [show iS (aG.size a0) a1=-1 from cQ (by unfold aG.size;omega)];try rfl
 rw [dB c0,dA (by omega),bq]
 rw [call_eq (Z1.aj (a1:=(a1 - ((aM.size a0.bP:Nat):Int))) ⟨hs.2.1,by omega,by omega⟩)]
 unfold Z1.md
 by_cases c1:(a1 - ((aM.size a0.bP:Nat):Int))<((aM.size a0.bD:Nat):Int)
 ·rw [cQ c1];rw [show iS (aG.size a0) a1=-1 from cQ (by unfold aG.size;omega)];try rfl
 rw [dB c1,dA (by omega),bq]
 rw [call_eq (Z1.aj (a1:=(a1 - ((aM.size a0.bP:Nat):Int) - ((aM.size a0.bD:Nat):Int))) ⟨hs.2.2,by omega,by omega⟩)]
 unfold Z1.md
 by_cases c2:(a1 - ((aM.size a0.bP:Nat):Int) - ((aM.size a0.bD:Nat):Int))<((aM.size a0.bA:Nat):Int)
 ·rw [cQ c2];rw [show iS (aG.size a0) a1=-1 from cQ (by unfold aG.size;omega)];try rfl
 rw [dB c2,dA (by omega),bq]
 rw [show iS (aG.size a0) a1=a1 - ((aM.size a0.bP:Nat):Int) - ((aM.size a0.bD:Nat):Int) - ((aM.size a0.bA:Nat):Int) from by rw [dB (by unfold aG.size;omega)];unfold aG.size;omega]
def af:cz 486 aW:=W2 24 F mix aF bt (.cons Z1.af .nil) Tryz.func486
end Z2
namespace Z3
def F (x0:aE)(x1:Int):aI:=(cond (decide ((i64.wrap (x1 - (x0.length:Int)))<0)) (ret ((-1):Int)) (ret ((i64.wrap (x1 - (x0.length:Int))):Int)))
def md (a0:List bp)(a1:Int):Int:=iS (dU (fun y:bp=>bp.size y) a0) a1
def gd (a0:List bp)(a1:Int):Prop:=(bM maxLen (fun y:bp=>bp.Sm maxLen y) a0)/\0<=a1/\a1<=1048576
def R:=RR (p2 gd) (u2 md)
def aj {a0 a1}(h:gd a0 a1):R ((a0.map bp.row),a1)=some (md a0 a1):=aP (a:=(a0,a1)) h
def aW:=CN [pL 516,pI] oI RT.dec R
def bt (a0)(a1)(hg:gd a0 a1):F (a0.map bp.row) a1=ret (md a0 a1):=by
 obtain ⟨hs,g0,g1⟩:=hg
 unfold F md
 rw [List.length_map,lT g0 g1 hs.1]
 have e:dU (fun y:bp=>bp.size y) a0=a0.length:=by
  unfold dU
  have :(a0.map (fun y:bp=>bp.size y)).sum=0:=qm (fun _=>rfl) a0
  omega
 rw [e]
 by_cases hc:a1<((a0.length:Nat):Int)
 ·rw [cQ hc,decide_eq_true (by omega)];rfl
 ·rw [dB hc,decide_eq_false (by omega)];rfl
def af:cz 487 aW:=W2 12 F mix aF bt .nil Tryz.func487
end Z3
namespace Z4
def F (x0:aT)(x1:Int):aI:=(call (Z2.R (x0.aq,x1)) fun v1=>(cond (decide (v1<0)) (ret ((-1):Int)) (call (Z3.R (x0.cu,v1)) fun v2=>(cond (decide (v2<0)) (ret ((-1):Int)) (ret (v2:Int))))))
def md (a0:aa)(a1:Int):Int:=iS (aa.size a0) a1
def gd (a0:aa)(a1:Int):Prop:=(aa.Sm maxLen a0)/\0<=a1/\a1<=1048576
def R:=RR (p2 gd) (u2 md)
def aj {a0 a1}(h:gd a0 a1):R ((aa.r a0),a1)=some (md a0 a1):=aP (a:=(a0,a1)) h
def aW:=CN [.agg AV,pI] oI RT.dec R
def bt (a0)(a1)(hg:gd a0 a1):F (aa.r a0) a1=ret (md a0 a1):=by
 obtain ⟨hs,g0,g1⟩:=hg
 unfold md
 show (call (Z2.R ((aG.r a0.aq),a1)) fun v1=>(bif (decide (v1<0)) then ret ((-1):Int) else (call (Z3.R ((a0.cu.map bp.row),v1)) fun v2=>(cond (decide (v2<0)) (ret ((-1):Int)) (ret (v2:Int))))))=_
 rw [call_eq (Z2.aj (a1:=a1) ⟨hs.1,by omega,by omega⟩)]
 unfold Z2.md
 by_cases c0:a1<((aG.size a0.aq:Nat):Int)
 ·rw [cQ c0];rw [show iS (aa.size a0) a1=-1 from cQ (by unfold aa.size;omega)];try rfl
 rw [dB c0,dA (by omega),bq]
 rw [call_eq (Z3.aj (a1:=(a1 - ((aG.size a0.aq:Nat):Int))) ⟨hs.2,by omega,by omega⟩)]
 unfold Z3.md
 by_cases c1:(a1 - ((aG.size a0.aq:Nat):Int))<((dU (fun y:bp=>bp.size y) a0.cu:Nat):Int)
 ·rw [cQ c1];rw [show iS (aa.size a0) a1=-1 from cQ (by unfold aa.size;omega)];try rfl
 rw [dB c1,dA (by omega),bq]
 rw [show iS (aa.size a0) a1=a1 - ((aG.size a0.aq:Nat):Int) - ((dU (fun y:bp=>bp.size y) a0.cu:Nat):Int) from by rw [dB (by unfold aa.size;omega)];unfold aa.size;omega]
def af:cz 422 aW:=W2 18 F mix aF bt (.cons Z2.af (.cons Z3.af .nil)) Tryz.func422
end Z4
namespace Z5
inductive Pt where
 | p0 (a:aE) (b c:Int)
def pid:Pt->Nat
 | .p0 ..=>5
def ck:Pt->List V
 | .p0 a b c=>[.sl none 345 a,.int .i64 b,.int .i64 c]
def cj:Pt->List aY
 | .p0 a b c=>[]
def step (J:Pt->aI):Pt->aI
 | .p0 a b c=>(cond (decide (c<(a.length:Int))) (m2 c (a.length:Int) (call (Z4.R ((aT.at a (toNat c)),b)) fun v1=>(cond (decide (v1<0)) (ret ((-1):Int)) (J (.p0 a v1 (i64.wrap (c+1))))))) (ret (b:Int)))
def start (J:Pt->aI)(x0:aE)(x1:Int):aI:=(cond (decide ((i64.wrap (x1 - (x0.length:Int)))<0)) (ret ((-1):Int)) (J (.p0 x0 (i64.wrap (x1 - (x0.length:Int))) 0)))
def live:Nat->Live:=fun i=>match i with | 5=>[(0,none),(1,none),(5,none)] | _=>[]
def md (a0:List aa)(a1:Int):Int:=iS (dU (fun y:aa=>aa.size y) a0) a1
def gd (a0:List aa)(a1:Int):Prop:=(bM maxLen (fun y:aa=>aa.Sm maxLen y) a0)/\0<=a1/\a1<=1048576
def R:=RR (p2 gd) (u2 md)
def aj {a0 a1}(h:gd a0 a1):R ((a0.map aa.row),a1)=some (md a0 a1):=aP (a:=(a0,a1)) h
def aW:=CN [pL 345,pI] oI RT.dec R
def bt (a0)(a1)(hg:gd a0 a1):∃n,start (iter step n) (a0.map aa.row) a1=ret (md a0 a1):=by
 obtain ⟨hs,g0,g1⟩:=hg
 unfold start md
 simp only [List.length_map]
 refine jM (pt:=fun left i=>Pt.p0 (a0.map aa.row) left (i:Int)) (f:=fun y:aa=>aa.size y) hs.1 (fun J i h left p0 p1=>?_) (fun J left=>?_) g0 g1
 ·simp only [step,MM,List.length_map,aO h,aJ,bh,cE,aa.eA h]
  rw [call_eq (Z4.aj ⟨hs.get h,p0,p1⟩),aH h hs.1]
  unfold Z4.md
  by_cases hc:left<((aa.size (a0[i]):Nat):Int)
  ·rw [cQ hc,if_pos hc];rfl
  ·rw [dB hc,if_neg hc,dA (by omega)];rfl
 ·simp only [step,List.length_map,dZ,bq]
def af:cz 320 aW:=L2 27 pid ck cj live step start mix aF bt (.cons Z4.af .nil) Tryz.func320
end Z5
namespace Z6
inductive Pt where
 | p0 (a:aE) (b c:Int)
def pid:Pt->Nat
 | .p0 ..=>5
def ck:Pt->List V
 | .p0 a b c=>[.sl none 338 a,.int .i64 b,.int .i64 c]
def cj:Pt->List aY
 | .p0 a b c=>[]
def step (J:Pt->aI):Pt->aI
 | .p0 a b c=>(cond (decide (c<(a.length:Int))) (m2 c (a.length:Int) (call (Z5.R ((oG a (toNat c)),b)) fun v1=>(cond (decide (v1<0)) (ret ((-1):Int)) (J (.p0 a v1 (i64.wrap (c+1))))))) (ret (b:Int)))
def start (J:Pt->aI)(x0:aE)(x1:Int):aI:=(cond (decide ((i64.wrap (x1 - (x0.length:Int)))<0)) (ret ((-1):Int)) (J (.p0 x0 (i64.wrap (x1 - (x0.length:Int))) 0)))
def live:Nat->Live:=fun i=>match i with | 5=>[(0,none),(1,none),(5,none)] | _=>[]
def md (a0:List (List aa))(a1:Int):Int:=iS (dU (fun y:List aa=>dU (fun y:aa=>aa.size y) y) a0) a1
def gd (a0:List (List aa))(a1:Int):Prop:=(bM maxLen (fun y:List aa=>bM maxLen (fun y:aa=>aa.Sm maxLen y) y) a0)/\0<=a1/\a1<=1048576
def R:=RR (p2 gd) (u2 md)
def aj {a0 a1}(h:gd a0 a1):R ((a0.map (dO aa.row)),a1)=some (md a0 a1):=aP (a:=(a0,a1)) h
def aW:=CN [pL 338,pI] oI RT.dec R
def bt (a0)(a1)(hg:gd a0 a1):∃n,start (iter step n) (a0.map (dO aa.row)) a1=ret (md a0 a1):=by
 obtain ⟨hs,g0,g1⟩:=hg
 unfold start md
 simp only [List.length_map]
 refine jM (pt:=fun left i=>Pt.p0 (a0.map (dO aa.row)) left (i:Int)) (f:=fun y:List aa=>dU (fun y:aa=>aa.size y) y) hs.1 (fun J i h left p0 p1=>?_) (fun J left=>?_) g0 g1
 ·simp only [step,MM,List.length_map,aO h,aJ,bh,cE,qe h]
  rw [call_eq (Z5.aj ⟨hs.get h,p0,p1⟩),aH h hs.1]
  unfold Z5.md
  by_cases hc:left<((dU (fun y:aa=>aa.size y) (a0[i]):Nat):Int)
  ·rw [cQ hc,if_pos hc];rfl
  ·rw [dB hc,if_neg hc,dA (by omega)];rfl
 ·simp only [step,List.length_map,dZ,bq]
def af:cz 161 aW:=L2 27 pid ck cj live step start mix aF bt (.cons Z5.af .nil) Tryz.func161
end Z6
namespace Z7
def F (x0:bK)(x1:Int):aI:=(call (Z4.R (x0.aS,x1)) fun v1=>(cond (decide (v1<0)) (ret ((-1):Int)) (call (Z4.R (x0.fA,v1)) fun v2=>(cond (decide (v2<0)) (ret ((-1):Int)) (call (Z4.R (x0.fB,v2)) fun v3=>(cond (decide (v3<0)) (ret ((-1):Int)) (ret (v3:Int))))))))
def md (a0:aC)(a1:Int):Int:=iS (aC.size a0) a1
def gd (a0:aC)(a1:Int):Prop:=(aC.Sm maxLen a0)/\0<=a1/\a1<=1048576
def R:=RR (p2 gd) (u2 md)
def aj {a0 a1}(h:gd a0 a1):R ((aC.r a0),a1)=some (md a0 a1):=aP (a:=(a0,a1)) h
def aW:=CN [.agg Ax,pI] oI RT.dec R
def bt (a0)(a1)(hg:gd a0 a1):F (aC.r a0) a1=ret (md a0 a1):=by
 obtain ⟨hs,g0,g1⟩:=hg
 unfold md
 show (call (Z4.R ((aa.r a0.aS),a1)) fun v1=>(bif (decide (v1<0)) then ret ((-1):Int) else (call (Z4.R ((aa.r a0.fA),v1)) fun v2=>(bif (decide (v2<0)) then ret ((-1):Int) else (call (Z4.R ((aa.r a0.fB),v2)) fun v3=>(cond (decide (v3<0)) (ret ((-1):Int)) (ret (v3:Int))))))))=_
 rw [call_eq (Z4.aj (a1:=a1) ⟨hs.1,by omega,by omega⟩)]
 unfold Z4.md
 by_cases c0:a1<((aa.size a0.aS:Nat):Int)
 ·rw [cQ c0];rw [show iS (aC.size a0) a1=-1 from cQ (by unfold aC.size;omega)];try rfl
 rw [dB c0,dA (by omega),bq]
 rw [call_eq (Z4.aj (a1:=(a1 - ((aa.size a0.aS:Nat):Int))) ⟨hs.2.1,by omega,by omega⟩)]
 unfold Z4.md
 by_cases c1:(a1 - ((aa.size a0.aS:Nat):Int))<((aa.size a0.fA:Nat):Int)
 ·rw [cQ c1];rw [show iS (aC.size a0) a1=-1 from cQ (by unfold aC.size;omega)];try rfl
 rw [dB c1,dA (by omega),bq]
 rw [call_eq (Z4.aj (a1:=(a1 - ((aa.size a0.aS:Nat):Int) - ((aa.size a0.fA:Nat):Int))) ⟨hs.2.2,by omega,by omega⟩)]
 unfold Z4.md
 by_cases c2:(a1 - ((aa.size a0.aS:Nat):Int) - ((aa.size a0.fA:Nat):Int))<((aa.size a0.fB:Nat):Int)
 ·rw [cQ c2];rw [show iS (aC.size a0) a1=-1 from cQ (by unfold aC.size;omega)];try rfl
 rw [dB c2,dA (by omega),bq]
 rw [show iS (aC.size a0) a1=a1 - ((aa.size a0.aS:Nat):Int) - ((aa.size a0.fA:Nat):Int) - ((aa.size a0.fB:Nat):Int) from by rw [dB (by unfold aC.size;omega)];unfold aC.size;omega]
def af:cz 321 aW:=W2 24 F mix aF bt (.cons Z4.af .nil) Tryz.func321
end Z7
namespace Z8
inductive Pt where
 | p0 (a:aE) (b c:Int)
def pid:Pt->Nat
 | .p0 ..=>5
def ck:Pt->List V
 | .p0 a b c=>[.sl none 347 a,.int .i64 b,.int .i64 c]
def cj:Pt->List aY
 | .p0 a b c=>[]
def step (J:Pt->aI):Pt->aI
 | .p0 a b c=>(cond (decide (c<(a.length:Int))) (m2 c (a.length:Int) (call (Z7.R ((bK.at a (toNat c)),b)) fun v1=>(cond (decide (v1<0)) (ret ((-1):Int)) (J (.p0 a v1 (i64.wrap (c+1))))))) (ret (b:Int)))
def start (J:Pt->aI)(x0:aE)(x1:Int):aI:=(cond (decide ((i64.wrap (x1 - (x0.length:Int)))<0)) (ret ((-1):Int)) (J (.p0 x0 (i64.wrap (x1 - (x0.length:Int))) 0)))
def live:Nat->Live:=fun i=>match i with | 5=>[(0,none),(1,none),(5,none)] | _=>[]
def md (a0:List aC)(a1:Int):Int:=iS (dU (fun y:aC=>aC.size y) a0) a1
def gd (a0:List aC)(a1:Int):Prop:=(bM maxLen (fun y:aC=>aC.Sm maxLen y) a0)/\0<=a1/\a1<=1048576
def R:=RR (p2 gd) (u2 md)
def aj {a0 a1}(h:gd a0 a1):R ((a0.map aC.row),a1)=some (md a0 a1):=aP (a:=(a0,a1)) h
def aW:=CN [pL 347,pI] oI RT.dec R
def bt (a0)(a1)(hg:gd a0 a1):∃n,start (iter step n) (a0.map aC.row) a1=ret (md a0 a1):=by
 obtain ⟨hs,g0,g1⟩:=hg
 unfold start md
 simp only [List.length_map]
 refine jM (pt:=fun left i=>Pt.p0 (a0.map aC.row) left (i:Int)) (f:=fun y:aC=>aC.size y) hs.1 (fun J i h left p0 p1=>?_) (fun J left=>?_) g0 g1
 ·simp only [step,MM,List.length_map,aO h,aJ,bh,cE,aC.eA h]
  rw [call_eq (Z7.aj ⟨hs.get h,p0,p1⟩),aH h hs.1]
  unfold Z7.md
  by_cases hc:left<((aC.size (a0[i]):Nat):Int)
  ·rw [cQ hc,if_pos hc];rfl
  ·rw [dB hc,if_neg hc,dA (by omega)];rfl
 ·simp only [step,List.length_map,dZ,bq]
def af:cz 162 aW:=L2 27 pid ck cj live step start mix aF bt (.cons Z7.af .nil) Tryz.func162
end Z8
namespace Z9
def F (x0:bw)(x1:Int):aI:=(call (Z6.R (x0.aK,x1)) fun v1=>(cond (decide (v1<0)) (ret ((-1):Int)) (call (Z8.R (x0.bn,v1)) fun v2=>(cond (decide (v2<0)) (ret ((-1):Int)) (ret (v2:Int))))))
def md (a0:au)(a1:Int):Int:=iS (au.size a0) a1
def gd (a0:au)(a1:Int):Prop:=(au.Sm maxLen a0)/\0<=a1/\a1<=1048576
def R:=RR (p2 gd) (u2 md)
def aj {a0 a1}(h:gd a0 a1):R ((au.r a0),a1)=some (md a0 a1):=aP (a:=(a0,a1)) h
def aW:=CN [.agg k25,pI] oI RT.dec R
def bt (a0)(a1)(hg:gd a0 a1):F (au.r a0) a1=ret (md a0 a1):=by
 obtain ⟨hs,g0,g1⟩:=hg
 unfold md
 show (call (Z6.R ((a0.aK.map (dO aa.row)),a1)) fun v1=>(bif (decide (v1<0)) then ret ((-1):Int) else (call (Z8.R ((a0.bn.map aC.row),v1)) fun v2=>(cond (decide (v2<0)) (ret ((-1):Int)) (ret (v2:Int))))))=_
 rw [call_eq (Z6.aj (a1:=a1) ⟨hs.1,by omega,by omega⟩)]
 unfold Z6.md
 by_cases c0:a1<((dU (fun y:List aa=>dU (fun y:aa=>aa.size y) y) a0.aK:Nat):Int)
 ·rw [cQ c0];rw [show iS (au.size a0) a1=-1 from cQ (by unfold au.size;omega)];try rfl
 rw [dB c0,dA (by omega),bq]
 rw [call_eq (Z8.aj (a1:=(a1 - ((dU (fun y:List aa=>dU (fun y:aa=>aa.size y) y) a0.aK:Nat):Int))) ⟨hs.2,by omega,by omega⟩)]
 unfold Z8.md
 by_cases c1:(a1 - ((dU (fun y:List aa=>dU (fun y:aa=>aa.size y) y) a0.aK:Nat):Int))<((dU (fun y:aC=>aC.size y) a0.bn:Nat):Int)
 ·rw [cQ c1];rw [show iS (au.size a0) a1=-1 from cQ (by unfold au.size;omega)];try rfl
 rw [dB c1,dA (by omega),bq]
 rw [show iS (au.size a0) a1=a1 - ((dU (fun y:List aa=>dU (fun y:aa=>aa.size y) y) a0.aK:Nat):Int) - ((dU (fun y:aC=>aC.size y) a0.bn:Nat):Int) from by rw [dB (by unfold au.size;omega)];unfold au.size;omega]
def af:cz 21 aW:=W2 18 F mix aF bt (.cons Z6.af (.cons Z8.af .nil)) Tryz.func21
end Z9
namespace Z10
inductive Pt where
 | p0 (a:aE) (b c:Int)
def pid:Pt->Nat
 | .p0 ..=>5
def ck:Pt->List V
 | .p0 a b c=>[.sl none 9 a,.int .i64 b,.int .i64 c]
def cj:Pt->List aY
 | .p0 a b c=>[]
def step (J:Pt->aI):Pt->aI
 | .p0 a b c=>(cond (decide (c<(a.length:Int))) (m2 c (a.length:Int) (cond (decide ((i64.wrap (b - ((qi a (toNat c)).size:Int)))<0)) (ret ((-1):Int)) (J (.p0 a (i64.wrap (b - ((qi a (toNat c)).size:Int))) (i64.wrap (c+1)))))) (ret (b:Int)))
def start (J:Pt->aI)(x0:aE)(x1:Int):aI:=(cond (decide ((i64.wrap (x1 - (x0.length:Int)))<0)) (ret ((-1):Int)) (J (.p0 x0 (i64.wrap (x1 - (x0.length:Int))) 0)))
def live:Nat->Live:=fun i=>match i with | 5=>[(0,none),(1,none),(5,none)] | _=>[]
def md (a0:List aD)(a1:Int):Int:=iS (dU (fun y:aD=>y.size) a0) a1
def gd (a0:List aD)(a1:Int):Prop:=(bM maxLen (fun y:aD=>y.size<=maxLen) a0)/\0<=a1/\a1<=1048576
def R:=RR (p2 gd) (u2 md)
def aj {a0 a1}(h:gd a0 a1):R ((a0.map cG),a1)=some (md a0 a1):=aP (a:=(a0,a1)) h
def aW:=CN [pL 9,pI] oI RT.dec R
def bt (a0)(a1)(hg:gd a0 a1):∃n,start (iter step n) (a0.map cG) a1=ret (md a0 a1):=by
 obtain ⟨hs,g0,g1⟩:=hg
 unfold start md
 simp only [List.length_map]
 refine jM (pt:=fun left i=>Pt.p0 (a0.map cG) left (i:Int)) (f:=fun y:aD=>y.size) hs.1 (fun J i h left p0 p1=>?_) (fun J left=>?_) g0 g1
 ·simp only [step,MM,List.length_map,aO h,aJ,bh,cE,pW h]
  rw [lT p0 p1 (hs.get h),aH h hs.1]
  by_cases hc:left - ((a0[i].size:Nat):Int)<0
  ·rw [decide_eq_true hc,if_pos (by omega)];rfl
  ·rw [decide_eq_false hc,if_neg (by omega)];rfl
 ·simp only [step,List.length_map,dZ,bq]
def af:cz 24 aW:=L2 28 pid ck cj live step start mix aF bt .nil Tryz.func24
end Z10
namespace Z11
def F (x0:aV)(x1:Int):aI:=(cond (decide ((i64.wrap (x1 - (x0.aZ.size:Int)))<0)) (ret ((-1):Int)) (call (Z10.R (x0.bH,(i64.wrap (x1 - (x0.aZ.size:Int))))) fun v1=>(cond (decide (v1<0)) (ret ((-1):Int)) (ret (v1:Int)))))
def md (a0:ah)(a1:Int):Int:=iS (ah.size a0) a1
def gd (a0:ah)(a1:Int):Prop:=(ah.Sm maxLen a0)/\0<=a1/\a1<=1048576
def R:=RR (p2 gd) (u2 md)
def aj {a0 a1}(h:gd a0 a1):R ((ah.r a0),a1)=some (md a0 a1):=aP (a:=(a0,a1)) h
def aW:=CN [.agg Az,pI] oI RT.dec R
def bt (a0)(a1)(hg:gd a0 a1):F (ah.r a0) a1=ret (md a0 a1):=by
 obtain ⟨hs,g0,g1⟩:=hg
 unfold md
 show (bif (decide ((i64.wrap (a1 - (a0.aZ.size:Int)))<0)) then ret ((-1):Int) else (call (Z10.R ((a0.bH.map cG),(i64.wrap (a1 - (a0.aZ.size:Int))))) fun v1=>(cond (decide (v1<0)) (ret ((-1):Int)) (ret (v1:Int)))))=_
 rw [lT (left:=a1) (s:=a0.aZ.size) (by omega) (by omega) hs.1]
 by_cases c0:a1 - ((a0.aZ.size:Nat):Int)<0
 ·rw [decide_eq_true c0,bh];rw [show iS (ah.size a0) a1=-1 from cQ (by unfold ah.size;omega)];try rfl
 rw [decide_eq_false c0,bq]
 rw [call_eq (Z10.aj (a1:=(a1 - ((a0.aZ.size:Nat):Int))) ⟨hs.2,by omega,by omega⟩)]
 unfold Z10.md
 by_cases c1:(a1 - ((a0.aZ.size:Nat):Int))<((dU (fun y:aD=>y.size) a0.bH:Nat):Int)
 ·rw [cQ c1];rw [show iS (ah.size a0) a1=-1 from cQ (by unfold ah.size;omega)];try rfl
 rw [dB c1,dA (by omega),bq]
 rw [show iS (ah.size a0) a1=a1 - ((a0.aZ.size:Nat):Int) - ((dU (fun y:aD=>y.size) a0.bH:Nat):Int) from by rw [dB (by unfold ah.size;omega)];unfold ah.size;omega]
def af:cz 495 aW:=W2 19 F mix aF bt (.cons Z10.af .nil) Tryz.func495
end Z11
namespace Z12
inductive Pt where
 | p0 (a:aE) (b c:Int)
def pid:Pt->Nat
 | .p0 ..=>5
def ck:Pt->List V
 | .p0 a b c=>[.sl none 357 a,.int .i64 b,.int .i64 c]
def cj:Pt->List aY
 | .p0 a b c=>[]
def step (J:Pt->aI):Pt->aI
 | .p0 a b c=>(cond (decide (c<(a.length:Int))) (m2 c (a.length:Int) (call (Z11.R ((aV.at a (toNat c)),b)) fun v1=>(cond (decide (v1<0)) (ret ((-1):Int)) (J (.p0 a v1 (i64.wrap (c+1))))))) (ret (b:Int)))
def start (J:Pt->aI)(x0:aE)(x1:Int):aI:=(cond (decide ((i64.wrap (x1 - (x0.length:Int)))<0)) (ret ((-1):Int)) (J (.p0 x0 (i64.wrap (x1 - (x0.length:Int))) 0)))
def live:Nat->Live:=fun i=>match i with | 5=>[(0,none),(1,none),(5,none)] | _=>[]
def md (a0:List ah)(a1:Int):Int:=iS (dU (fun y:ah=>ah.size y) a0) a1
def gd (a0:List ah)(a1:Int):Prop:=(bM maxLen (fun y:ah=>ah.Sm maxLen y) a0)/\0<=a1/\a1<=1048576
def R:=RR (p2 gd) (u2 md)
def aj {a0 a1}(h:gd a0 a1):R ((a0.map ah.row),a1)=some (md a0 a1):=aP (a:=(a0,a1)) h
def aW:=CN [pL 357,pI] oI RT.dec R
def bt (a0)(a1)(hg:gd a0 a1):∃n,start (iter step n) (a0.map ah.row) a1=ret (md a0 a1):=by
 obtain ⟨hs,g0,g1⟩:=hg
 unfold start md
 simp only [List.length_map]
 refine jM (pt:=fun left i=>Pt.p0 (a0.map ah.row) left (i:Int)) (f:=fun y:ah=>ah.size y) hs.1 (fun J i h left p0 p1=>?_) (fun J left=>?_) g0 g1
 ·simp only [step,MM,List.length_map,aO h,aJ,bh,cE,ah.eA h]
  rw [call_eq (Z11.aj ⟨hs.get h,p0,p1⟩),aH h hs.1]
  unfold Z11.md
  by_cases hc:left<((ah.size (a0[i]):Nat):Int)
  ·rw [cQ hc,if_pos hc];rfl
  ·rw [dB hc,if_neg hc,dA (by omega)];rfl
 ·simp only [step,List.length_map,dZ,bq]
def af:cz 488 aW:=L2 27 pid ck cj live step start mix aF bt (.cons Z11.af .nil) Tryz.func488
end Z12
namespace Z13
def F (x0:dQ)(x1:Int):aI:=(call (Z5.R (x0.aU,x1)) fun v1=>(cond (decide (v1<0)) (ret ((-1):Int)) (call (Z12.R (x0.bO,v1)) fun v2=>(cond (decide (v2<0)) (ret ((-1):Int)) (ret (v2:Int))))))
def md (a0:aL)(a1:Int):Int:=iS (aL.size a0) a1
def gd (a0:aL)(a1:Int):Prop:=(aL.Sm maxLen a0)/\0<=a1/\a1<=1048576
def R:=RR (p2 gd) (u2 md)
def aj {a0 a1}(h:gd a0 a1):R ((aL.r a0),a1)=some (md a0 a1):=aP (a:=(a0,a1)) h
def aW:=CN [.agg Aq,pI] oI RT.dec R
def bt (a0)(a1)(hg:gd a0 a1):F (aL.r a0) a1=ret (md a0 a1):=by
 obtain ⟨hs,g0,g1⟩:=hg
 unfold md
 show (call (Z5.R ((a0.aU.map aa.row),a1)) fun v1=>(bif (decide (v1<0)) then ret ((-1):Int) else (call (Z12.R ((a0.bO.map ah.row),v1)) fun v2=>(cond (decide (v2<0)) (ret ((-1):Int)) (ret (v2:Int))))))=_
 rw [call_eq (Z5.aj (a1:=a1) ⟨hs.1,by omega,by omega⟩)]
 unfold Z5.md
 by_cases c0:a1<((dU (fun y:aa=>aa.size y) a0.aU:Nat):Int)
 ·rw [cQ c0];rw [show iS (aL.size a0) a1=-1 from cQ (by unfold aL.size;omega)];try rfl
 rw [dB c0,dA (by omega),bq]
 rw [call_eq (Z12.aj (a1:=(a1 - ((dU (fun y:aa=>aa.size y) a0.aU:Nat):Int))) ⟨hs.2,by omega,by omega⟩)]
 unfold Z12.md
 by_cases c1:(a1 - ((dU (fun y:aa=>aa.size y) a0.aU:Nat):Int))<((dU (fun y:ah=>ah.size y) a0.bO:Nat):Int)
 ·rw [cQ c1];rw [show iS (aL.size a0) a1=-1 from cQ (by unfold aL.size;omega)];try rfl
 rw [dB c1,dA (by omega),bq]
 rw [show iS (aL.size a0) a1=a1 - ((dU (fun y:aa=>aa.size y) a0.aU:Nat):Int) - ((dU (fun y:ah=>ah.size y) a0.bO:Nat):Int) from by rw [dB (by unfold aL.size;omega)];unfold aL.size;omega]
def af:cz 423 aW:=W2 18 F mix aF bt (.cons Z5.af (.cons Z12.af .nil)) Tryz.func423
end Z13
namespace Z14
inductive Pt where
 | p0 (a:aE) (b c:Int)
def pid:Pt->Nat
 | .p0 ..=>5
def ck:Pt->List V
 | .p0 a b c=>[.sl none 423 a,.int .i64 b,.int .i64 c]
def cj:Pt->List aY
 | .p0 a b c=>[]
def step (J:Pt->aI):Pt->aI
 | .p0 a b c=>(cond (decide (c<(a.length:Int))) (m2 c (a.length:Int) (call (Z13.R ((dQ.at a (toNat c)),b)) fun v1=>(cond (decide (v1<0)) (ret ((-1):Int)) (J (.p0 a v1 (i64.wrap (c+1))))))) (ret (b:Int)))
def start (J:Pt->aI)(x0:aE)(x1:Int):aI:=(cond (decide ((i64.wrap (x1 - (x0.length:Int)))<0)) (ret ((-1):Int)) (J (.p0 x0 (i64.wrap (x1 - (x0.length:Int))) 0)))
def live:Nat->Live:=fun i=>match i with | 5=>[(0,none),(1,none),(5,none)] | _=>[]
def md (a0:List aL)(a1:Int):Int:=iS (dU (fun y:aL=>aL.size y) a0) a1
def gd (a0:List aL)(a1:Int):Prop:=(bM maxLen (fun y:aL=>aL.Sm maxLen y) a0)/\0<=a1/\a1<=1048576
def R:=RR (p2 gd) (u2 md)
def aj {a0 a1}(h:gd a0 a1):R ((a0.map aL.row),a1)=some (md a0 a1):=aP (a:=(a0,a1)) h
def aW:=CN [pL 423,pI] oI RT.dec R
def bt (a0)(a1)(hg:gd a0 a1):∃n,start (iter step n) (a0.map aL.row) a1=ret (md a0 a1):=by
 obtain ⟨hs,g0,g1⟩:=hg
 unfold start md
 simp only [List.length_map]
 refine jM (pt:=fun left i=>Pt.p0 (a0.map aL.row) left (i:Int)) (f:=fun y:aL=>aL.size y) hs.1 (fun J i h left p0 p1=>?_) (fun J left=>?_) g0 g1
 ·simp only [step,MM,List.length_map,aO h,aJ,bh,cE,aL.eA h]
  rw [call_eq (Z13.aj ⟨hs.get h,p0,p1⟩),aH h hs.1]
  unfold Z13.md
  by_cases hc:left<((aL.size (a0[i]):Nat):Int)
  ·rw [cQ hc,if_pos hc];rfl
  ·rw [dB hc,if_neg hc,dA (by omega)];rfl
 ·simp only [step,List.length_map,dZ,bq]
def af:cz 322 aW:=L2 27 pid ck cj live step start mix aF bt (.cons Z13.af .nil) Tryz.func322
end Z14
namespace Z15
def F (x0:cP)(x1:Int):aI:=(call (Z14.R (x0.bJ,x1)) fun v1=>(cond (decide (v1<0)) (ret ((-1):Int)) (ret (v1:Int))))
def md (a0:ay)(a1:Int):Int:=iS (ay.size a0) a1
def gd (a0:ay)(a1:Int):Prop:=(ay.Sm maxLen a0)/\0<=a1/\a1<=1048576
def R:=RR (p2 gd) (u2 md)
def aj {a0 a1}(h:gd a0 a1):R ((ay.r a0),a1)=some (md a0 a1):=aP (a:=(a0,a1)) h
def aW:=CN [.agg Au,pI] oI RT.dec R
def bt (a0)(a1)(hg:gd a0 a1):F (ay.r a0) a1=ret (md a0 a1):=by
 obtain ⟨hs,g0,g1⟩:=hg
 unfold md
 show (call (Z14.R ((a0.bJ.map aL.row),a1)) fun v1=>(cond (decide (v1<0)) (ret ((-1):Int)) (ret (v1:Int))))=_
 rw [call_eq (Z14.aj (a1:=a1) ⟨hs,by omega,by omega⟩)]
 unfold Z14.md
 by_cases c0:a1<((dU (fun y:aL=>aL.size y) a0.bJ:Nat):Int)
 ·rw [cQ c0];rw [show iS (ay.size a0) a1=-1 from cQ (by unfold ay.size;omega)];try rfl
 rw [dB c0,dA (by omega),bq]
 rw [show iS (ay.size a0) a1=a1 - ((dU (fun y:aL=>aL.size y) a0.bJ:Nat):Int) from by rw [dB (by unfold ay.size;omega)];unfold ay.size;omega]
def af:cz 163 aW:=W2 12 F mix aF bt (.cons Z14.af .nil) Tryz.func163
end Z15
namespace Z16
inductive Pt where
 | p0 (a:aE) (b c:Int)
def pid:Pt->Nat
 | .p0 ..=>5
def ck:Pt->List V
 | .p0 a b c=>[.sl none 218 a,.int .i64 b,.int .i64 c]
def cj:Pt->List aY
 | .p0 a b c=>[]
def step (J:Pt->aI):Pt->aI
 | .p0 a b c=>(cond (decide (c<(a.length:Int))) (m2 c (a.length:Int) (call (Z15.R ((cP.at a (toNat c)),b)) fun v1=>(cond (decide (v1<0)) (ret ((-1):Int)) (J (.p0 a v1 (i64.wrap (c+1))))))) (ret (b:Int)))
def start (J:Pt->aI)(x0:aE)(x1:Int):aI:=(cond (decide ((i64.wrap (x1 - (x0.length:Int)))<0)) (ret ((-1):Int)) (J (.p0 x0 (i64.wrap (x1 - (x0.length:Int))) 0)))
def live:Nat->Live:=fun i=>match i with | 5=>[(0,none),(1,none),(5,none)] | _=>[]
def md (a0:List ay)(a1:Int):Int:=iS (dU (fun y:ay=>ay.size y) a0) a1
def gd (a0:List ay)(a1:Int):Prop:=(bM maxLen (fun y:ay=>ay.Sm maxLen y) a0)/\0<=a1/\a1<=1048576
def R:=RR (p2 gd) (u2 md)
def aj {a0 a1}(h:gd a0 a1):R ((a0.map ay.row),a1)=some (md a0 a1):=aP (a:=(a0,a1)) h
def aW:=CN [pL 218,pI] oI RT.dec R
def bt (a0)(a1)(hg:gd a0 a1):∃n,start (iter step n) (a0.map ay.row) a1=ret (md a0 a1):=by
 obtain ⟨hs,g0,g1⟩:=hg
 unfold start md
 simp only [List.length_map]
 refine jM (pt:=fun left i=>Pt.p0 (a0.map ay.row) left (i:Int)) (f:=fun y:ay=>ay.size y) hs.1 (fun J i h left p0 p1=>?_) (fun J left=>?_) g0 g1
 ·simp only [step,MM,List.length_map,aO h,aJ,bh,cE,ay.eA h]
  rw [call_eq (Z15.aj ⟨hs.get h,p0,p1⟩),aH h hs.1]
  unfold Z15.md
  by_cases hc:left<((ay.size (a0[i]):Nat):Int)
  ·rw [cQ hc,if_pos hc];rfl
  ·rw [dB hc,if_neg hc,dA (by omega)];rfl
 ·simp only [step,List.length_map,dZ,bq]
def af:cz 22 aW:=L2 27 pid ck cj live step start mix aF bt (.cons Z15.af .nil) Tryz.func22
end Z16
namespace Z17
def F (x0:bF)(x1:Int):aI:=(cond (decide ((i64.wrap (x1 - (x0.fName.size:Int)))<0)) (ret ((-1):Int)) (ret ((i64.wrap (x1 - (x0.fName.size:Int))):Int)))
def md (a0:bF)(a1:Int):Int:=iS (bF.size a0) a1
def gd (a0:bF)(a1:Int):Prop:=(bF.Sm maxLen a0)/\0<=a1/\a1<=1048576
def R:=RR (p2 gd) (u2 md)
def aj {a0 a1}(h:gd a0 a1):R (a0,a1)=some (md a0 a1):=aP (a:=(a0,a1)) h
def aW:=CN [.agg Aj,pI] oI RT.dec R
def bt (a0)(a1)(hg:gd a0 a1):F a0 a1=ret (md a0 a1):=by
 obtain ⟨hs,g0,g1⟩:=hg
 unfold md
 show (cond (decide ((i64.wrap (a1 - (a0.fName.size:Int)))<0)) (ret ((-1):Int)) (ret ((i64.wrap (a1 - (a0.fName.size:Int))):Int)))=_
 rw [lT (left:=a1) (s:=a0.fName.size) (by omega) (by omega) hs]
 by_cases c0:a1 - ((a0.fName.size:Nat):Int)<0
 ·rw [decide_eq_true c0,bh];rw [show iS (bF.size a0) a1=-1 from cQ (by unfold bF.size;omega)];try rfl
 rw [decide_eq_false c0,bq]
 rw [show iS (bF.size a0) a1=a1 - ((a0.fName.size:Nat):Int) from by rw [dB (by unfold bF.size;omega)];unfold bF.size;omega]
def af:cz 192 aW:=W2 13 F mix aF bt .nil Tryz.func192
end Z17
namespace Z18
inductive Pt where
 | p0 (a:aE) (b c:Int)
def pid:Pt->Nat
 | .p0 ..=>5
def ck:Pt->List V
 | .p0 a b c=>[.sl none 245 a,.int .i64 b,.int .i64 c]
def cj:Pt->List aY
 | .p0 a b c=>[]
def step (J:Pt->aI):Pt->aI
 | .p0 a b c=>(cond (decide (c<(a.length:Int))) (m2 c (a.length:Int) (call (Z17.R ((bF.at a (toNat c)),b)) fun v1=>(cond (decide (v1<0)) (ret ((-1):Int)) (J (.p0 a v1 (i64.wrap (c+1))))))) (ret (b:Int)))
def start (J:Pt->aI)(x0:aE)(x1:Int):aI:=(cond (decide ((i64.wrap (x1 - (x0.length:Int)))<0)) (ret ((-1):Int)) (J (.p0 x0 (i64.wrap (x1 - (x0.length:Int))) 0)))
def live:Nat->Live:=fun i=>match i with | 5=>[(0,none),(1,none),(5,none)] | _=>[]
def md (a0:List bF)(a1:Int):Int:=iS (dU (fun y:bF=>bF.size y) a0) a1
def gd (a0:List bF)(a1:Int):Prop:=(bM maxLen (fun y:bF=>bF.Sm maxLen y) a0)/\0<=a1/\a1<=1048576
def R:=RR (p2 gd) (u2 md)
def aj {a0 a1}(h:gd a0 a1):R ((a0.map bF.row),a1)=some (md a0 a1):=aP (a:=(a0,a1)) h
def aW:=CN [pL 245,pI] oI RT.dec R
def bt (a0)(a1)(hg:gd a0 a1):∃n,start (iter step n) (a0.map bF.row) a1=ret (md a0 a1):=by
 obtain ⟨hs,g0,g1⟩:=hg
 unfold start md
 simp only [List.length_map]
 refine jM (pt:=fun left i=>Pt.p0 (a0.map bF.row) left (i:Int)) (f:=fun y:bF=>bF.size y) hs.1 (fun J i h left p0 p1=>?_) (fun J left=>?_) g0 g1
 ·simp only [step,MM,List.length_map,aO h,aJ,bh,cE,bF.eA h]
  rw [call_eq (Z17.aj ⟨hs.get h,p0,p1⟩),aH h hs.1]
  unfold Z17.md
  by_cases hc:left<((bF.size (a0[i]):Nat):Int)
  ·rw [cQ hc,if_pos hc];rfl
  ·rw [dB hc,if_neg hc,dA (by omega)];rfl
 ·simp only [step,List.length_map,dZ,bq]
def af:cz 52 aW:=L2 27 pid ck cj live step start mix aF bt (.cons Z17.af .nil) Tryz.func52
end Z18
namespace Z19
inductive Pt where
 | p0 (a:aE) (b:Int) (c:aE)
def pid:Pt->Nat
 | .p0 ..=>3
def ck:Pt->List V
 | .p0 a b c=>[.sl none 3 a,.own 0,.int .i64 b]
def cj:Pt->List aY
 | .p0 a b c=>[.row 3 c]
def step (J:Pt->aI):Pt->aI
 | .p0 a b c=>(cond (decide (b<(a.length:Int))) (m2 b (a.length:Int) (m2 b (c.length:Int) (J (.p0 a (i64.wrap (b+1)) (List.set c (toNat b) [L.int (jx a (toNat b))]))))) (ret (c:aE)))
def start (J:Pt->aI)(x0:aE):aI:=(cq (decide ((0:Int)<=(x0.length:Int))) (cq (decide ((x0.length:Int)<=(x0.length:Int))) (cq (decide ((x0.length:Int)*8<=140737488355328)) (J (.p0 x0 0 (List.replicate (toNat (x0.length:Int)) [L.int 0]))))))
def live:Nat->Live:=fun i=>match i with | 3=>[(0,none),(3,none),(4,none)] | _=>[]
def md (a0:List Int):List Int:=a0
def gd (a0:List Int):Prop:=bM (2^36) (fun y:Int=>True) a0
def R:=RR gd md
def aj {a0}(h:gd a0):R (a0.map bk)=some (a0.map bk):=aP (a:=a0) h
def aW:=CN [pL 3] (oL 3) RT.dec R
def bt (a0)(hg:gd a0):∃n,start (iter step n) (a0.map bk)=ret ((md a0).map bk):=by
 unfold start md
 simp only [List.length_map]
 refine iL (b:=8) (pt:=fun i c=>Pt.p0 (a0.map bk) (i:Int) c) (by have:=hg.1;simp at this;omega) (fun J i h c hc=>?_) (fun J c=>?_)
 ·simp only [step,MM,List.length_map,aO h,aJ,bh,cE,tj h,hc]
  rw [aH (n:=a0.length) h (by have:=hg.1;simp only [maxLen];simp at this;omega)]
  rfl
 ·simp only [step,List.length_map,dZ,bq]
def af:cz 556 aW:=L1 22 pid ck cj live step start mix aF bt .nil Tryz.func556
end Z19
namespace Z20
def F (x0:bE):aI:=(call (Z19.R x0.aX) fun v1=>ret ((⟨v1,x0.cF⟩:bE):bE))
def md (a0:aM):aM:=a0
def gd (a0:aM):Prop:=aM.Sm (2^36) a0
def R:=RR gd md
def aj {a0}(h:gd a0):R (aM.r a0)=some (aM.r a0):=aP (a:=a0) h
def aW:=CN [.agg AQ] (.agg f98) RT.dec R
def bt (a0)(hg:gd a0):F (aM.r a0)=ret (aM.r (md a0)):=by
 unfold md
 show (call (Z19.R (a0.aX.map bk)) fun v1=>ret ((⟨v1,a0.cF⟩:bE):bE))=_
 rw [call_eq (Z19.aj hg)]
 rfl
def af:cz 551 aW:=W1 12 F mix aF bt (.cons Z19.af .nil) Tryz.func551
end Z20
namespace Z21
def F (x0:cg):aI:=(call (Z20.R x0.bP) fun v1=>(call (Z20.R x0.bD) fun v2=>(call (Z20.R x0.bA) fun v3=>ret ((⟨x0.bC,x0.cN,x0.bI,x0.cK,x0.cC,x0.cy,x0.dm,x0.dH,v1,v2,x0.dw,v3,x0.bG⟩:cg):cg))))
def md (a0:aG):aG:=a0
def gd (a0:aG):Prop:=aG.Sm (2^36) a0
def R:=RR gd md
def aj {a0}(h:gd a0):R (aG.r a0)=some (aG.r a0):=aP (a:=a0) h
def aW:=CN [.agg Ak] (.agg f102) RT.dec R
def bt (a0)(hg:gd a0):F (aG.r a0)=ret (aG.r (md a0)):=by
 unfold md
 show (call (Z20.R (aM.r a0.bP)) fun v1=>(call (Z20.R (aM.r a0.bD)) fun v2=>(call (Z20.R (aM.r a0.bA)) fun v3=>ret ((⟨a0.bC,a0.cN,a0.bI,a0.cK,a0.cC,a0.cy,a0.dm,a0.dH,v1,v2,a0.dw,v3,a0.bG⟩:cg):cg))))=_
 rw [call_eq (Z20.aj hg.1)]
 rw [call_eq (Z20.aj hg.2.1)]
 rw [call_eq (Z20.aj hg.2.2)]
 rfl
def af:cz 489 aW:=W1 47 F mix aF bt (.cons Z20.af .nil) Tryz.func489
end Z21
namespace Z22
def F (x0:bp):aI:=ret (x0:bp)
def md (a0:bp):bp:=a0
def gd (a0:bp):Prop:=bp.Sm (2^36) a0
def R:=RR gd md
def aj {a0}(h:gd a0):R a0=some a0:=aP (a:=a0) h
def aW:=CN [.agg A4] (.agg f428) RT.dec R
def bt (a0)(hg:gd a0):F a0=ret (md a0):=by
 rfl
def af:cz 552 aW:=W1 11 F mix aF bt .nil Tryz.func552
end Z22
namespace Z23
inductive Pt where
 | p0 (a:aE) (b:Int) (c:aE)
def pid:Pt->Nat
 | .p0 ..=>3
def ck:Pt->List V
 | .p0 a b c=>[.sl none 516 a,.own 0,.int .i64 b]
def cj:Pt->List aY
 | .p0 a b c=>[.row 428 c]
def step (J:Pt->aI):Pt->aI
 | .p0 a b c=>(cond (decide (b<(a.length:Int))) (m2 b (a.length:Int) (call (Z22.R (bp.at a (toNat b))) fun v1=>(m2 b (c.length:Int) (J (.p0 a (i64.wrap (b+1)) (List.set c (toNat b) (bp.enc v1))))))) (ret (c:aE)))
def start (J:Pt->aI)(x0:aE):aI:=(cq (decide ((0:Int)<=(x0.length:Int))) (cq (decide ((x0.length:Int)<=(x0.length:Int))) (cq (decide ((x0.length:Int)*16<=140737488355328)) (J (.p0 x0 0 (List.replicate (toNat (x0.length:Int)) [L.int 0,L.int 0]))))))
def live:Nat->Live:=fun i=>match i with | 3=>[(0,none),(3,none),(4,none)] | _=>[]
def md (a0:List bp):List bp:=a0
def gd (a0:List bp):Prop:=bM (2^36) (fun y:bp=>bp.Sm (2^36) y) a0
def R:=RR gd md
def aj {a0}(h:gd a0):R (a0.map bp.row)=some (a0.map bp.row):=aP (a:=a0) h
def aW:=CN [pL 516] (oL 428) RT.dec R
def bt (a0)(hg:gd a0):∃n,start (iter step n) (a0.map bp.row)=ret ((md a0).map bp.row):=by
 unfold start md
 simp only [List.length_map]
 refine iL (b:=16) (pt:=fun i c=>Pt.p0 (a0.map bp.row) (i:Int) c) (by have:=hg.1;simp at this;omega) (fun J i h c hc=>?_) (fun J c=>?_)
 ·simp only [step,MM,List.length_map,aO h,aJ,bh,cE,bp.eA h,hc]
  rw [call_eq (Z22.aj (hg.get h))]
  try simp only [hc,aO h,bh]
  rw [aH (n:=a0.length) h (by have:=hg.1;simp only [maxLen];simp at this;omega)]
  rfl
 ·simp only [step,List.length_map,dZ,bq]
def af:cz 490 aW:=L1 23 pid ck cj live step start mix aF bt (.cons Z22.af .nil) Tryz.func490
end Z23
namespace Z24
def F (x0:aT):aI:=(call (Z21.R x0.aq) fun v1=>(call (Z23.R x0.cu) fun v2=>ret ((⟨v1,v2⟩:aT):aT)))
def md (a0:aa):aa:=a0
def gd (a0:aa):Prop:=aa.Sm (2^36) a0
def R:=RR gd md
def aj {a0}(h:gd a0):R (aa.r a0)=some (aa.r a0):=aP (a:=a0) h
def aW:=CN [.agg AV] (.agg f123) RT.dec R
def bt (a0)(hg:gd a0):F (aa.r a0)=ret (aa.r (md a0)):=by
 unfold md
 show (call (Z21.R (aG.r a0.aq)) fun v1=>(call (Z23.R (a0.cu.map bp.row)) fun v2=>ret ((⟨v1,v2⟩:aT):aT)))=_
 rw [call_eq (Z21.aj hg.1)]
 rw [call_eq (Z23.aj hg.2)]
 rfl
def af:cz 424 aW:=W1 13 F mix aF bt (.cons Z21.af (.cons Z23.af .nil)) Tryz.func424
end Z24
namespace Z25
inductive Pt where
 | p0 (a:aE) (b:Int) (c:aE)
def pid:Pt->Nat
 | .p0 ..=>3
def ck:Pt->List V
 | .p0 a b c=>[.sl none 345 a,.own 0,.int .i64 b]
def cj:Pt->List aY
 | .p0 a b c=>[.row 123 c]
def step (J:Pt->aI):Pt->aI
 | .p0 a b c=>(cond (decide (b<(a.length:Int))) (m2 b (a.length:Int) (call (Z24.R (aT.at a (toNat b))) fun v1=>(m2 b (c.length:Int) (J (.p0 a (i64.wrap (b+1)) (List.set c (toNat b) (aT.enc v1))))))) (ret (c:aE)))
def start (J:Pt->aI)(x0:aE):aI:=(cq (decide ((0:Int)<=(x0.length:Int))) (cq (decide ((x0.length:Int)<=(x0.length:Int))) (cq (decide ((x0.length:Int)*200<=140737488355328)) (J (.p0 x0 0 (List.replicate (toNat (x0.length:Int)) [L.int 0,L.int 0,L.int 0,L.int 0,L.int 0,L.int 0,L.int 0,L.int 0,L.sl [],L.int 0,L.sl [],L.int 0,L.int 0,L.sl [],L.int 0,L.bool false,L.sl []]))))))
def live:Nat->Live:=fun i=>match i with | 3=>[(0,none),(3,none),(4,none)] | _=>[]
def md (a0:List aa):List aa:=a0
def gd (a0:List aa):Prop:=bM (2^36) (fun y:aa=>aa.Sm (2^36) y) a0
def R:=RR gd md
def aj {a0}(h:gd a0):R (a0.map aa.row)=some (a0.map aa.row):=aP (a:=a0) h
def aW:=CN [pL 345] (oL 123) RT.dec R
def bt (a0)(hg:gd a0):∃n,start (iter step n) (a0.map aa.row)=ret ((md a0).map aa.row):=by
 unfold start md
 simp only [List.length_map]
 refine iL (b:=200) (pt:=fun i c=>Pt.p0 (a0.map aa.row) (i:Int) c) (by have:=hg.1;simp at this;omega) (fun J i h c hc=>?_) (fun J c=>?_)
 ·simp only [step,MM,List.length_map,aO h,aJ,bh,cE,aa.eA h,hc]
  rw [call_eq (Z24.aj (hg.get h))]
  try simp only [hc,aO h,bh]
  rw [aH (n:=a0.length) h (by have:=hg.1;simp only [maxLen];simp at this;omega)]
  rfl
 ·simp only [step,List.length_map,dZ,bq]
def af:cz 324 aW:=L1 23 pid ck cj live step start mix aF bt (.cons Z24.af .nil) Tryz.func324
end Z25
namespace Z26
inductive Pt where
 | p0 (a:aE) (b:Int) (c:aE)
def pid:Pt->Nat
 | .p0 ..=>3
def ck:Pt->List V
 | .p0 a b c=>[.sl none 338 a,.own 0,.int .i64 b]
def cj:Pt->List aY
 | .p0 a b c=>[.row 92 c]
def step (J:Pt->aI):Pt->aI
 | .p0 a b c=>(cond (decide (b<(a.length:Int))) (m2 b (a.length:Int) (call (Z25.R (oG a (toNat b))) fun v1=>(m2 b (c.length:Int) (J (.p0 a (i64.wrap (b+1)) (List.set c (toNat b) [L.sl v1])))))) (ret (c:aE)))
def start (J:Pt->aI)(x0:aE):aI:=(cq (decide ((0:Int)<=(x0.length:Int))) (cq (decide ((x0.length:Int)<=(x0.length:Int))) (cq (decide ((x0.length:Int)*24<=140737488355328)) (J (.p0 x0 0 (List.replicate (toNat (x0.length:Int)) [L.sl []]))))))
def live:Nat->Live:=fun i=>match i with | 3=>[(0,none),(3,none),(4,none)] | _=>[]
def md (a0:List (List aa)):List (List aa):=a0
def gd (a0:List (List aa)):Prop:=bM (2^36) (fun y:List aa=>bM (2^36) (fun y:aa=>aa.Sm (2^36) y) y) a0
def R:=RR gd md
def aj {a0}(h:gd a0):R (a0.map (dO aa.row))=some (a0.map (dO aa.row)):=aP (a:=a0) h
def aW:=CN [pL 338] (oL 92) RT.dec R
def bt (a0)(hg:gd a0):∃n,start (iter step n) (a0.map (dO aa.row))=ret ((md a0).map (dO aa.row)):=by
 unfold start md
 simp only [List.length_map]
 refine iL (b:=24) (pt:=fun i c=>Pt.p0 (a0.map (dO aa.row)) (i:Int) c) (by have:=hg.1;simp at this;omega) (fun J i h c hc=>?_) (fun J c=>?_)
 ·simp only [step,MM,List.length_map,aO h,aJ,bh,cE,qe h,hc]
  rw [call_eq (Z25.aj (hg.get h))]
  try simp only [hc,aO h,bh]
  rw [aH (n:=a0.length) h (by have:=hg.1;simp only [maxLen];simp at this;omega)]
  rfl
 ·simp only [step,List.length_map,dZ,bq]
def af:cz 166 aW:=L1 23 pid ck cj live step start mix aF bt (.cons Z25.af .nil) Tryz.func166
end Z26
namespace Z27
def F (x0:bK):aI:=(call (Z24.R x0.aS) fun v1=>(call (Z24.R x0.fA) fun v2=>(call (Z24.R x0.fB) fun v3=>ret ((⟨v1,v2,v3⟩:bK):bK))))
def md (a0:aC):aC:=a0
def gd (a0:aC):Prop:=aC.Sm (2^36) a0
def R:=RR gd md
def aj {a0}(h:gd a0):R (aC.r a0)=some (aC.r a0):=aP (a:=a0) h
def aW:=CN [.agg Ax] (.agg f280) RT.dec R
def bt (a0)(hg:gd a0):F (aC.r a0)=ret (aC.r (md a0)):=by
 unfold md
 show (call (Z24.R (aa.r a0.aS)) fun v1=>(call (Z24.R (aa.r a0.fA)) fun v2=>(call (Z24.R (aa.r a0.fB)) fun v3=>ret ((⟨v1,v2,v3⟩:bK):bK))))=_
 rw [call_eq (Z24.aj hg.1)]
 rw [call_eq (Z24.aj hg.2.1)]
 rw [call_eq (Z24.aj hg.2.2)]
 rfl
def af:cz 325 aW:=W1 17 F mix aF bt (.cons Z24.af .nil) Tryz.func325
end Z27
namespace Z28
inductive Pt where
 | p0 (a:aE) (b:Int) (c:aE)
def pid:Pt->Nat
 | .p0 ..=>3
def ck:Pt->List V
 | .p0 a b c=>[.sl none 347 a,.own 0,.int .i64 b]
def cj:Pt->List aY
 | .p0 a b c=>[.row 280 c]
def step (J:Pt->aI):Pt->aI
 | .p0 a b c=>(cond (decide (b<(a.length:Int))) (m2 b (a.length:Int) (call (Z27.R (bK.at a (toNat b))) fun v1=>(m2 b (c.length:Int) (J (.p0 a (i64.wrap (b+1)) (List.set c (toNat b) (bK.enc v1))))))) (ret (c:aE)))
def start (J:Pt->aI)(x0:aE):aI:=(cq (decide ((0:Int)<=(x0.length:Int))) (cq (decide ((x0.length:Int)<=(x0.length:Int))) (cq (decide ((x0.length:Int)*600<=140737488355328)) (J (.p0 x0 0 (List.replicate (toNat (x0.length:Int)) [L.int 0,L.int 0,L.int 0,L.int 0,L.int 0,L.int 0,L.int 0,L.int 0,L.sl [],L.int 0,L.sl [],L.int 0,L.int 0,L.sl [],L.int 0,L.bool false,L.sl [],L.int 0,L.int 0,L.int 0,L.int 0,L.int 0,L.int 0,L.int 0,L.int 0,L.sl [],L.int 0,L.sl [],L.int 0,L.int 0,L.sl [],L.int 0,L.bool false,L.sl [],L.int 0,L.int 0,L.int 0,L.int 0,L.int 0,L.int 0,L.int 0,L.int 0,L.sl [],L.int 0,L.sl [],L.int 0,L.int 0,L.sl [],L.int 0,L.bool false,L.sl []]))))))
def live:Nat->Live:=fun i=>match i with | 3=>[(0,none),(3,none),(4,none)] | _=>[]
def md (a0:List aC):List aC:=a0
def gd (a0:List aC):Prop:=bM (2^36) (fun y:aC=>aC.Sm (2^36) y) a0
def R:=RR gd md
def aj {a0}(h:gd a0):R (a0.map aC.row)=some (a0.map aC.row):=aP (a:=a0) h
def aW:=CN [pL 347] (oL 280) RT.dec R
def bt (a0)(hg:gd a0):∃n,start (iter step n) (a0.map aC.row)=ret ((md a0).map aC.row):=by
 unfold start md
 simp only [List.length_map]
 refine iL (b:=600) (pt:=fun i c=>Pt.p0 (a0.map aC.row) (i:Int) c) (by have:=hg.1;simp at this;omega) (fun J i h c hc=>?_) (fun J c=>?_)
 ·simp only [step,MM,List.length_map,aO h,aJ,bh,cE,aC.eA h,hc]
  rw [call_eq (Z27.aj (hg.get h))]
  try simp only [hc,aO h,bh]
  rw [aH (n:=a0.length) h (by have:=hg.1;simp only [maxLen];simp at this;omega)]
  rfl
 ·simp only [step,List.length_map,dZ,bq]
def af:cz 167 aW:=L1 23 pid ck cj live step start mix aF bt (.cons Z27.af .nil) Tryz.func167
end Z28
namespace Z29
def F (x0:bw):aI:=(call (Z26.R x0.aK) fun v1=>(call (Z28.R x0.bn) fun v2=>ret ((⟨v1,v2⟩:bw):bw)))
def md (a0:au):au:=a0
def gd (a0:au):Prop:=au.Sm (2^36) a0
def R:=RR gd md
def aj {a0}(h:gd a0):R (au.r a0)=some (au.r a0):=aP (a:=a0) h
def aW:=CN [.agg k25] (.agg f37) RT.dec R
def bt (a0)(hg:gd a0):F (au.r a0)=ret (au.r (md a0)):=by
 unfold md
 show (call (Z26.R (a0.aK.map (dO aa.row))) fun v1=>(call (Z28.R (a0.bn.map aC.row)) fun v2=>ret ((⟨v1,v2⟩:bw):bw)))=_
 rw [call_eq (Z26.aj hg.1)]
 rw [call_eq (Z28.aj hg.2)]
 rfl
def af:cz 26 aW:=W1 13 F mix aF bt (.cons Z26.af (.cons Z28.af .nil)) Tryz.func26
end Z29
namespace Z30
inductive Pt where
 | p0 (a:aE) (b:Int) (c:aE)
def pid:Pt->Nat
 | .p0 ..=>3
def ck:Pt->List V
 | .p0 a b c=>[.sl none 9 a,.own 0,.int .i64 b]
def cj:Pt->List aY
 | .p0 a b c=>[.row 9 c]
def step (J:Pt->aI):Pt->aI
 | .p0 a b c=>(cond (decide (b<(a.length:Int))) (m2 b (a.length:Int) (m2 b (c.length:Int) (J (.p0 a (i64.wrap (b+1)) (List.set c (toNat b) [L.str (qi a (toNat b))]))))) (ret (c:aE)))
def start (J:Pt->aI)(x0:aE):aI:=(cq (decide ((0:Int)<=(x0.length:Int))) (cq (decide ((x0.length:Int)<=(x0.length:Int))) (cq (decide ((x0.length:Int)*16<=140737488355328)) (J (.p0 x0 0 (List.replicate (toNat (x0.length:Int)) [L.str ⟨#[]⟩]))))))
def live:Nat->Live:=fun i=>match i with | 3=>[(0,none),(3,none),(4,none)] | _=>[]
def md (a0:List aD):List aD:=a0
def gd (a0:List aD):Prop:=bM (2^36) (fun y:aD=>y.size<=(2^36)) a0
def R:=RR gd md
def aj {a0}(h:gd a0):R (a0.map cG)=some (a0.map cG):=aP (a:=a0) h
def aW:=CN [pL 9] (oL 9) RT.dec R
def bt (a0)(hg:gd a0):∃n,start (iter step n) (a0.map cG)=ret ((md a0).map cG):=by
 unfold start md
 simp only [List.length_map]
 refine iL (b:=16) (pt:=fun i c=>Pt.p0 (a0.map cG) (i:Int) c) (by have:=hg.1;simp at this;omega) (fun J i h c hc=>?_) (fun J c=>?_)
 ·simp only [step,MM,List.length_map,aO h,aJ,bh,cE,pW h,hc]
  rw [aH (n:=a0.length) h (by have:=hg.1;simp only [maxLen];simp at this;omega)]
  rfl
 ·simp only [step,List.length_map,dZ,bq]
def af:cz 29 aW:=L1 22 pid ck cj live step start mix aF bt .nil Tryz.func29
end Z30
namespace Z31
def F (x0:aV):aI:=(call (Z30.R x0.bH) fun v1=>ret ((⟨x0.aZ,x0.bI,x0.bX,v1⟩:aV):aV))
def md (a0:ah):ah:=a0
def gd (a0:ah):Prop:=ah.Sm (2^36) a0
def R:=RR gd md
def aj {a0}(h:gd a0):R (ah.r a0)=some (ah.r a0):=aP (a:=a0) h
def aW:=CN [.agg Az] (.agg f61) RT.dec R
def bt (a0)(hg:gd a0):F (ah.r a0)=ret (ah.r (md a0)):=by
 unfold md
 show (call (Z30.R (a0.bH.map cG)) fun v1=>ret ((⟨a0.aZ,a0.bI,a0.bX,v1⟩:aV):aV))=_
 rw [call_eq (Z30.aj hg.2)]
 rfl
def af:cz 498 aW:=W1 18 F mix aF bt (.cons Z30.af .nil) Tryz.func498
end Z31
namespace Z32
inductive Pt where
 | p0 (a:aE) (b:Int) (c:aE)
def pid:Pt->Nat
 | .p0 ..=>3
def ck:Pt->List V
 | .p0 a b c=>[.sl none 357 a,.own 0,.int .i64 b]
def cj:Pt->List aY
 | .p0 a b c=>[.row 61 c]
def step (J:Pt->aI):Pt->aI
 | .p0 a b c=>(cond (decide (b<(a.length:Int))) (m2 b (a.length:Int) (call (Z31.R (aV.at a (toNat b))) fun v1=>(m2 b (c.length:Int) (J (.p0 a (i64.wrap (b+1)) (List.set c (toNat b) (aV.enc v1))))))) (ret (c:aE)))
def start (J:Pt->aI)(x0:aE):aI:=(cq (decide ((0:Int)<=(x0.length:Int))) (cq (decide ((x0.length:Int)<=(x0.length:Int))) (cq (decide ((x0.length:Int)*56<=140737488355328)) (J (.p0 x0 0 (List.replicate (toNat (x0.length:Int)) [L.str ⟨#[]⟩,L.int 0,L.int 0,L.sl []]))))))
def live:Nat->Live:=fun i=>match i with | 3=>[(0,none),(3,none),(4,none)] | _=>[]
def md (a0:List ah):List ah:=a0
def gd (a0:List ah):Prop:=bM (2^36) (fun y:ah=>ah.Sm (2^36) y) a0
def R:=RR gd md
def aj {a0}(h:gd a0):R (a0.map ah.row)=some (a0.map ah.row):=aP (a:=a0) h
def aW:=CN [pL 357] (oL 61) RT.dec R
def bt (a0)(hg:gd a0):∃n,start (iter step n) (a0.map ah.row)=ret ((md a0).map ah.row):=by
 unfold start md
 simp only [List.length_map]
 refine iL (b:=56) (pt:=fun i c=>Pt.p0 (a0.map ah.row) (i:Int) c) (by have:=hg.1;simp at this;omega) (fun J i h c hc=>?_) (fun J c=>?_)
 ·simp only [step,MM,List.length_map,aO h,aJ,bh,cE,ah.eA h,hc]
  rw [call_eq (Z31.aj (hg.get h))]
  try simp only [hc,aO h,bh]
  rw [aH (n:=a0.length) h (by have:=hg.1;simp only [maxLen];simp at this;omega)]
  rfl
 ·simp only [step,List.length_map,dZ,bq]
def af:cz 491 aW:=L1 23 pid ck cj live step start mix aF bt (.cons Z31.af .nil) Tryz.func491
end Z32
namespace Z33
def F (x0:dQ):aI:=(call (Z25.R x0.aU) fun v1=>(call (Z32.R x0.bO) fun v2=>ret ((⟨v1,v2⟩:dQ):dQ)))
def md (a0:aL):aL:=a0
def gd (a0:aL):Prop:=aL.Sm (2^36) a0
def R:=RR gd md
def aj {a0}(h:gd a0):R (aL.r a0)=some (aL.r a0):=aP (a:=a0) h
def aW:=CN [.agg Aq] (.agg f293) RT.dec R
def bt (a0)(hg:gd a0):F (aL.r a0)=ret (aL.r (md a0)):=by
 unfold md
 show (call (Z25.R (a0.aU.map aa.row)) fun v1=>(call (Z32.R (a0.bO.map ah.row)) fun v2=>ret ((⟨v1,v2⟩:dQ):dQ)))=_
 rw [call_eq (Z25.aj hg.1)]
 rw [call_eq (Z32.aj hg.2)]
 rfl
def af:cz 425 aW:=W1 13 F mix aF bt (.cons Z25.af (.cons Z32.af .nil)) Tryz.func425
end Z33
namespace Z34
inductive Pt where
 | p0 (a:aE) (b:Int) (c:aE)
def pid:Pt->Nat
 | .p0 ..=>3
def ck:Pt->List V
 | .p0 a b c=>[.sl none 423 a,.own 0,.int .i64 b]
def cj:Pt->List aY
 | .p0 a b c=>[.row 293 c]
def step (J:Pt->aI):Pt->aI
 | .p0 a b c=>(cond (decide (b<(a.length:Int))) (m2 b (a.length:Int) (call (Z33.R (dQ.at a (toNat b))) fun v1=>(m2 b (c.length:Int) (J (.p0 a (i64.wrap (b+1)) (List.set c (toNat b) (dQ.enc v1))))))) (ret (c:aE)))
def start (J:Pt->aI)(x0:aE):aI:=(cq (decide ((0:Int)<=(x0.length:Int))) (cq (decide ((x0.length:Int)<=(x0.length:Int))) (cq (decide ((x0.length:Int)*48<=140737488355328)) (J (.p0 x0 0 (List.replicate (toNat (x0.length:Int)) [L.sl [],L.sl []]))))))
def live:Nat->Live:=fun i=>match i with | 3=>[(0,none),(3,none),(4,none)] | _=>[]
def md (a0:List aL):List aL:=a0
def gd (a0:List aL):Prop:=bM (2^36) (fun y:aL=>aL.Sm (2^36) y) a0
def R:=RR gd md
def aj {a0}(h:gd a0):R (a0.map aL.row)=some (a0.map aL.row):=aP (a:=a0) h
def aW:=CN [pL 423] (oL 293) RT.dec R
def bt (a0)(hg:gd a0):∃n,start (iter step n) (a0.map aL.row)=ret ((md a0).map aL.row):=by
 unfold start md
 simp only [List.length_map]
 refine iL (b:=48) (pt:=fun i c=>Pt.p0 (a0.map aL.row) (i:Int) c) (by have:=hg.1;simp at this;omega) (fun J i h c hc=>?_) (fun J c=>?_)
 ·simp only [step,MM,List.length_map,aO h,aJ,bh,cE,aL.eA h,hc]
  rw [call_eq (Z33.aj (hg.get h))]
  try simp only [hc,aO h,bh]
  rw [aH (n:=a0.length) h (by have:=hg.1;simp only [maxLen];simp at this;omega)]
  rfl
 ·simp only [step,List.length_map,dZ,bq]
def af:cz 326 aW:=L1 23 pid ck cj live step start mix aF bt (.cons Z33.af .nil) Tryz.func326
end Z34
namespace Z35
def F (x0:cP):aI:=(call (Z34.R x0.bJ) fun v1=>ret ((⟨v1,x0.gW⟩:cP):cP))
def md (a0:ay):ay:=a0
def gd (a0:ay):Prop:=ay.Sm (2^36) a0
def R:=RR gd md
def aj {a0}(h:gd a0):R (ay.r a0)=some (ay.r a0):=aP (a:=a0) h
def aW:=CN [.agg Au] (.agg f227) RT.dec R
def bt (a0)(hg:gd a0):F (ay.r a0)=ret (ay.r (md a0)):=by
 unfold md
 show (call (Z34.R (a0.bJ.map aL.row)) fun v1=>ret ((⟨v1,a0.gW⟩:cP):cP))=_
 rw [call_eq (Z34.aj hg)]
 rfl
def af:cz 168 aW:=W1 12 F mix aF bt (.cons Z34.af .nil) Tryz.func168
end Z35
namespace Z36
inductive Pt where
 | p0 (a:aE) (b:Int) (c:aE)
def pid:Pt->Nat
 | .p0 ..=>3
def ck:Pt->List V
 | .p0 a b c=>[.sl none 218 a,.own 0,.int .i64 b]
def cj:Pt->List aY
 | .p0 a b c=>[.row 227 c]
def step (J:Pt->aI):Pt->aI
 | .p0 a b c=>(cond (decide (b<(a.length:Int))) (m2 b (a.length:Int) (call (Z35.R (cP.at a (toNat b))) fun v1=>(m2 b (c.length:Int) (J (.p0 a (i64.wrap (b+1)) (List.set c (toNat b) (cP.enc v1))))))) (ret (c:aE)))
def start (J:Pt->aI)(x0:aE):aI:=(cq (decide ((0:Int)<=(x0.length:Int))) (cq (decide ((x0.length:Int)<=(x0.length:Int))) (cq (decide ((x0.length:Int)*32<=140737488355328)) (J (.p0 x0 0 (List.replicate (toNat (x0.length:Int)) [L.sl [],L.int 0]))))))
def live:Nat->Live:=fun i=>match i with | 3=>[(0,none),(3,none),(4,none)] | _=>[]
def md (a0:List ay):List ay:=a0
def gd (a0:List ay):Prop:=bM (2^36) (fun y:ay=>ay.Sm (2^36) y) a0
def R:=RR gd md
def aj {a0}(h:gd a0):R (a0.map ay.row)=some (a0.map ay.row):=aP (a:=a0) h
def aW:=CN [pL 218] (oL 227) RT.dec R
def bt (a0)(hg:gd a0):∃n,start (iter step n) (a0.map ay.row)=ret ((md a0).map ay.row):=by
 unfold start md
 simp only [List.length_map]
 refine iL (b:=32) (pt:=fun i c=>Pt.p0 (a0.map ay.row) (i:Int) c) (by have:=hg.1;simp at this;omega) (fun J i h c hc=>?_) (fun J c=>?_)
 ·simp only [step,MM,List.length_map,aO h,aJ,bh,cE,ay.eA h,hc]
  rw [call_eq (Z35.aj (hg.get h))]
  try simp only [hc,aO h,bh]
  rw [aH (n:=a0.length) h (by have:=hg.1;simp only [maxLen];simp at this;omega)]
  rfl
 ·simp only [step,List.length_map,dZ,bq]
def af:cz 27 aW:=L1 23 pid ck cj live step start mix aF bt (.cons Z35.af .nil) Tryz.func27
end Z36
namespace Z37
def F (x0:bF):aI:=ret (x0:bF)
def md (a0:bF):bF:=a0
def gd (a0:bF):Prop:=bF.Sm (2^36) a0
def R:=RR gd md
def aj {a0}(h:gd a0):R a0=some a0:=aP (a:=a0) h
def aW:=CN [.agg Aj] (.agg f207) RT.dec R
def bt (a0)(hg:gd a0):F a0=ret (md a0):=by
 unfold md
 show ret (a0:bF)=_
 rfl
def af:cz 197 aW:=W1 11 F mix aF bt .nil Tryz.func197
end Z37
namespace Z38
inductive Pt where
 | p0 (a:aE) (b:Int) (c:aE)
def pid:Pt->Nat
 | .p0 ..=>3
def ck:Pt->List V
 | .p0 a b c=>[.sl none 245 a,.own 0,.int .i64 b]
def cj:Pt->List aY
 | .p0 a b c=>[.row 207 c]
def step (J:Pt->aI):Pt->aI
 | .p0 a b c=>(cond (decide (b<(a.length:Int))) (m2 b (a.length:Int) (call (Z37.R (bF.at a (toNat b))) fun v1=>(m2 b (c.length:Int) (J (.p0 a (i64.wrap (b+1)) (List.set c (toNat b) (bF.enc v1))))))) (ret (c:aE)))
def start (J:Pt->aI)(x0:aE):aI:=(cq (decide ((0:Int)<=(x0.length:Int))) (cq (decide ((x0.length:Int)<=(x0.length:Int))) (cq (decide ((x0.length:Int)*24<=140737488355328)) (J (.p0 x0 0 (List.replicate (toNat (x0.length:Int)) [L.str ⟨#[]⟩,L.int 0]))))))
def live:Nat->Live:=fun i=>match i with | 3=>[(0,none),(3,none),(4,none)] | _=>[]
def md (a0:List bF):List bF:=a0
def gd (a0:List bF):Prop:=bM (2^36) (fun y:bF=>bF.Sm (2^36) y) a0
def R:=RR gd md
def aj {a0}(h:gd a0):R (a0.map bF.row)=some (a0.map bF.row):=aP (a:=a0) h
def aW:=CN [pL 245] (oL 207) RT.dec R
def bt (a0)(hg:gd a0):∃n,start (iter step n) (a0.map bF.row)=ret ((md a0).map bF.row):=by
 unfold start md
 simp only [List.length_map]
 refine iL (b:=24) (pt:=fun i c=>Pt.p0 (a0.map bF.row) (i:Int) c) (by have:=hg.1;simp at this;omega) (fun J i h c hc=>?_) (fun J c=>?_)
 ·simp only [step,MM,List.length_map,aO h,aJ,bh,cE,bF.eA h,hc]
  rw [call_eq (Z37.aj (hg.get h))]
  try simp only [hc,aO h,bh]
  rw [aH (n:=a0.length) h (by have:=hg.1;simp only [maxLen];simp at this;omega)]
  rfl
 ·simp only [step,List.length_map,dZ,bq]
def af:cz 54 aW:=L1 23 pid ck cj live step start mix aF bt (.cons Z37.af .nil) Tryz.func54
end Z38
namespace Z39
inductive Pt where
 | p0 (a:aE) (b:aD) (c:Int)
def pid:Pt->Nat
 | .p0 ..=>2
def ck:Pt->List V
 | .p0 a b c=>[.sl none 207 a,.str b,.int .i64 c]
def cj:Pt->List aY
 | .p0 a b c=>[]
def step (J:Pt->aI):Pt->aI
 | .p0 a b c=>(cond (decide (c<(a.length:Int))) (m2 c (a.length:Int) (cond ((bF.at a (toNat c)).fName==b) (ret (c:Int)) (J (.p0 a b (i64.wrap (c+1)))))) (ret ((-1):Int)))
def start (J:Pt->aI)(x0:aE)(x1:aD):aI:=J (.p0 x0 x1 0)
def live:Nat->Live:=fun i=>match i with | 2=>[(0,none),(1,none),(5,none)] | _=>[]
def md (a0:List bF)(a1:aD):Int:=(dW (S:=Unit) (β:=Int) (fun (i1:Nat) (y1:bF) (s3:Unit)=>(cond (y1.fName==a1) (.inr ((i1:Int):Int)) (.inl ()))) (fun (s3:Unit)=>((-1):Int)) 0 a0 ())
def gd (a0:List bF)(a1:aD):Prop:=(bM (2^21) (fun y:bF=>bF.Sm (2^21) y) a0)
def R:=RR (p2 gd) (u2 md)
def aj {a0 a1}(h:gd a0 a1):R ((a0.map bF.row),a1)=some (md a0 a1):=aP (a:=(a0,a1)) h
def aW:=CN [pL 207,pS] oI RT.dec R
def bt (a0)(a1)(hg:gd a0 a1):∃n,start (iter step n) (a0.map bF.row) a1=ret (md a0 a1):=by
 unfold gd at hg
 have H0:=hg
 unfold start md
 try simp only [SS]
 have Bh2:a0.length<=maxLen:=(by
   have:=(H0).1
   try simp only [maxLen] at *
   omega)
 refine ex_eq (out:=ret) (cX (z:=bF.zero)) ?_
 refine dP (p:=Pt.p0 (a0.map bF.row) a1 0) fz ?_
 refine cm (pt:=fun (i1:Nat) (s3:Unit)=>Pt.p0 (a0.map bF.row) a1 (i1:Int)) (s:=(():Unit)) (out:=ret) (fun _ _=>True) (fun J i1 s3 h2 hih2=>?_) (fun s3 hih2=>?_) trivial
 ·simp only [step,SS]
  have bb_:=Bh2
  simp only [maxLen] at bb_
  have:=(H0).1
  refine bB.yes (by apply decide_eq_true;omega) ?_
  refine bB.yes aJ ?_
  refine bB.yes (aO h2) ?_
  refine bB.bif (fun c4=>?_) (fun c4=>?_)
  ·refine bB.inr ?_
   all_goals exact fz
  ·refine bB.inl trivial ?_
   rw [aH h2 Bh2]
   all_goals exact fz
 ·simp only [step,SS]
  have:=(H0).1
  refine dF (by apply decide_eq_false;omega) ?_
  refine ⟨0,?_⟩
  all_goals exact fz
def af:cz 319 aW:=L2 20 pid ck cj live step start mix aF bt .nil Tryz.func319
def fa (a0:List bF)(a1:aD):-1<=md a0 a1/\md a0 a1<(a0.length:Int):=by
 unfold md
 refine fK ?_ _ _
 all_goals
  intro i x s b h
  revert h
  simp only [Bool.cond_eq_ite]
  repeat' split
  all_goals (intro h;first | (cases h;rfl) | cases h)
end Z39
namespace Z40
def F (x0:aE)(x1:aD):aI:=(call (Z39.R (x0,x1)) fun v1=>(cond (decide (v1<0)) (ret (((-1),false):Int×Bool)) (m2 v1 (x0.length:Int) (ret (((bF.at x0 (toNat v1)).bC,true):Int×Bool)))))
def md (a0:List bF)(a1:aD):Int×Bool:=(cond (decide ((Z39.md a0 a1)<0)) ((-1),false) ((a0.getD (toNat (Z39.md a0 a1)) bF.zero).bC,true))
def gd (a0:List bF)(a1:aD):Prop:=(bM (2^21) (fun y:bF=>bF.Sm (2^21) y) a0)
def R:=RR (p2 gd) (u2 md)
def aj {a0 a1}(h:gd a0 a1):R ((a0.map bF.row),a1)=some ((md a0 a1).1,(md a0 a1).2):=aP (a:=(a0,a1)) h
def aW:=CN [pL 207,pS] (.iQ [(false,[fI]),(false,[fB])]) RT.dec R
def bt (a0)(a1)(hg:gd a0 a1):F (a0.map bF.row) a1=ret ((md a0 a1).1,(md a0 a1).2):=by
 unfold gd at hg
 have H0:=hg
 unfold F md
 try simp only [SS]
 refine ct (Z39.aj H0) ?_
 have fv1_:=Z39.fa a0 a1
 refine av (fun b:Int×Bool=>ret ((b.1,b.2):Int×Bool)) (fun _=>rfl) (fun c1=>?_)
 have dc1:=c1
 try simp only [DC] at dc1
 refine ak dt ?_
 refine ak (have:=(H0).1;dt) ?_
 all_goals exact fz
def af:cz 159 aW:=W2 17 F mix aF bt (.cons Z39.af .nil) Tryz.func159
end Z40
namespace Z41
def F (x0:bE):aI:=(cq (ff ((x0.aX.length:Int)*8)) (ret (x0:bE)))
def md (a0:aM):aM:=a0
def gd (a0:aM):Prop:=(aM.Sm (2^21) a0)
def R:=RR gd md
def aj {a0}(h:gd a0):R (aM.r a0)=some (aM.r a0):=aP (a:=a0) h
def aW:=CN [.agg qa] (.agg f98) RT.dec R
def bt (a0)(hg:gd a0):F (aM.r a0)=ret (aM.r (md a0)):=by
 unfold gd at hg
 have H0:=hg
 unfold F md
 try simp only [SS]
 refine ak (have:=(H0).1;lm) ?_
 all_goals exact fz
def af:cz 352 aW:=W1 10 F mix aF bt .nil Tryz.func352
end Z41
namespace Z42
def F (x0:cg):aI:=(call (Z41.R x0.bP) fun v1=>(call (Z41.R x0.bD) fun v2=>(call (Z41.R x0.bA) fun v3=>ret ((⟨x0.bC,x0.cN,x0.bI,x0.cK,x0.cC,x0.cy,x0.dm,x0.dH,v1,v2,x0.dw,v3,x0.bG⟩:cg):cg))))
def md (a0:aG):aG:=a0
def gd (a0:aG):Prop:=(aG.Sm (2^21) a0)
def R:=RR gd md
def aj {a0}(h:gd a0):R (aG.r a0)=some (aG.r a0):=aP (a:=a0) h
def aW:=CN [.agg gi] (.agg f102) RT.dec R
def bt (a0)(hg:gd a0):F (aG.r a0)=ret (aG.r (md a0)):=by
 unfold gd at hg
 have H0:=hg
 unfold F md
 try simp only [SS]
 refine ct (Z41.aj H0.1) ?_
 try simp only [SS]
 refine ct (Z41.aj H0.2.1) ?_
 try simp only [SS]
 refine ct (Z41.aj H0.2.2) ?_
 try simp only [SS]
 all_goals exact fz
def af:cz 222 aW:=W1 18 F mix aF bt (.cons Z41.af .nil) Tryz.func222
end Z42
namespace Z43
def F (x0:aT):aI:=(call (Z42.R x0.aq) fun v1=>(cq (ff ((x0.cu.length:Int)*16)) (ret ((⟨v1,x0.cu⟩:aT):aT))))
def md (a0:aa):aa:=a0
def gd (a0:aa):Prop:=(aa.Sm (2^21) a0)
def R:=RR gd md
def aj {a0}(h:gd a0):R (aa.r a0)=some (aa.r a0):=aP (a:=a0) h
def aW:=CN [.agg kI] (.agg f123) RT.dec R
def bt (a0)(hg:gd a0):F (aa.r a0)=ret (aa.r (md a0)):=by
 unfold gd at hg
 have H0:=hg
 unfold F md
 try simp only [SS]
 refine ct (Z42.aj H0.1) ?_
 try simp only [SS]
 refine ak (have:=(H0.2).1;lm) ?_
 all_goals exact fz
def af:cz 367 aW:=W1 11 F mix aF bt (.cons Z42.af .nil) Tryz.func367
end Z43
namespace Z44
inductive Pt where
 | p0 (a:aE) (b:Int) (c:aE)
def pid:Pt->Nat
 | .p0 ..=>3
def ck:Pt->List V
 | .p0 a b c=>[.sl none 123 a,.own 0,.int .i64 b]
def cj:Pt->List aY
 | .p0 a b c=>[.row 123 c]
def step (J:Pt->aI):Pt->aI
 | .p0 a b c=>(cond (decide (b<(a.length:Int))) (m2 b (a.length:Int) (call (Z43.R (aT.at a (toNat b))) fun v1=>(cq (ff (((c.length:Int)+1)*200)) (J (.p0 a (i64.wrap (b+1)) (c++[(aT.enc v1)])))))) (ret (c:aE)))
def start (J:Pt->aI)(x0:aE):aI:=J (.p0 x0 0 [])
def live:Nat->Live:=fun i=>match i with | 3=>[(0,none),(3,some 123),(4,none)] | _=>[]
def md (a0:List aa):List aa:=a0
def gd (a0:List aa):Prop:=(bM (2^21) (fun y:aa=>aa.Sm (2^21) y) a0)
def R:=RR gd md
def aj {a0}(h:gd a0):R (a0.map aa.row)=some (a0.map aa.row):=aP (a:=a0) h
def aW:=CN [pL 123] (oL 123) RT.dec R
def bt (a0)(hg:gd a0):∃n,start (iter step n) (a0.map aa.row)=ret ((md a0).map aa.row):=by
 unfold gd at hg
 have H0:=hg
 unfold start md
 try simp only [SS]
 have Bh2:a0.length<=maxLen:=(by
   have:=(H0).1
   try simp only [maxLen] at *
   omega)
 refine ex_eq (out:=(fun b:List aa=>ret ((b.map aa.row):aE))) (iK (xs:=a0) (z:=aa.zero) (t:=fun s3:List aa=>s3)) ?_
 refine dP (p:=Pt.p0 (a0.map aa.row) 0 ([].map aa.row)) fz ?_
 refine cm (pt:=fun (i1:Nat) (s3:List aa)=>Pt.p0 (a0.map aa.row) (i1:Int) (s3.map aa.row)) (s:=([]:List aa)) (out:=(fun b:List aa=>ret ((b.map aa.row):aE))) (fun (i1:Nat) (s3:List aa)=>s3.length<=([]:List Int).length+1*i1) (fun J i1 s3 h2 hih2=>?_) (fun s3 hih2=>?_) (by simp)
 ·simp only [step,SS]
  have gr_:=hih2
  try simp only [LN] at gr_
  have bb_:=Bh2
  simp only [maxLen] at bb_
  have:=(H0).1
  refine bB.yes (by apply decide_eq_true;omega) ?_
  refine bB.yes aJ ?_
  refine bB.yes (aO h2) ?_
  refine cr (Z43.aj (bM.getD (z:=aa.zero) H0 h2)) ?_
  try simp only [SS]
  refine bB.yes lm ?_
  refine bB.inl (by
    have g_:=hih2
    try simp only [LN] at g_ ⊢
    first | omega | (simp;done) | (simp;omega)) ?_
  rw [aH h2 Bh2]
  all_goals exact fz
 ·simp only [step,SS]
  have gr_:=hih2
  try simp only [LN] at gr_
  have:=(H0).1
  refine dF (by apply decide_eq_false;omega) ?_
  refine ⟨0,?_⟩
  all_goals exact fz
def af:cz 244 aW:=L1 21 pid ck cj live step start mix aF bt (.cons Z43.af .nil) Tryz.func244
end Z44
namespace Z45
def F (x0:bK):aI:=(call (Z43.R x0.aS) fun v1=>(call (Z43.R x0.fA) fun v2=>(call (Z43.R x0.fB) fun v3=>ret ((⟨v1,v2,v3⟩:bK):bK))))
def md (a0:aC):aC:=a0
def gd (a0:aC):Prop:=(aC.Sm (2^21) a0)
def R:=RR gd md
def aj {a0}(h:gd a0):R (aC.r a0)=some (aC.r a0):=aP (a:=a0) h
def aW:=CN [.agg tH] (.agg f280) RT.dec R
def bt (a0)(hg:gd a0):F (aC.r a0)=ret (aC.r (md a0)):=by
 unfold gd at hg
 have H0:=hg
 unfold F md
 try simp only [SS]
 refine ct (Z43.aj H0.1) ?_
 try simp only [SS]
 refine ct (Z43.aj H0.2.1) ?_
 try simp only [SS]
 refine ct (Z43.aj H0.2.2) ?_
 try simp only [SS]
 all_goals exact fz
def af:cz 323 aW:=W1 13 F mix aF bt (.cons Z43.af .nil) Tryz.func323
end Z45
namespace Z46
inductive Pt where
 | p0 (a:Int) (b:bw) (c:aE)
 | p1 (a:Int) (b:bw) (c d:aE)
def pid:Pt->Nat
 | .p0 ..=>3
 | .p1 ..=>7
def ck:Pt->List V
 | .p0 a b c=>[.dz 0 0,.dz 1 0,.dz 2 0,.int .i64 a,.dz 2 0]
 | .p1 a b c d=>[.dz 0 0,.dz 1 0,.dz 2 0,.int .i64 a,.dz 2 0,.dz 2 0]
def cj:Pt->List aY
 | .p0 a b c=>[.box [.sl none 92 b.aK,.sl none 280 b.bn],.box [.nil,.nil],.box [.own 3,.nil],.row 92 c]
 | .p1 a b c d=>[.box [.sl none 92 b.aK,.sl none 280 b.bn],.box [.nil,.nil],.box [.own 3,.own 4],.row 92 c,.row 280 d]
def step (J:Pt->aI):Pt->aI
 | .p0 a b c=>(cond (decide (a<(b.aK.length:Int))) (m2 a (b.aK.length:Int) (call (Z44.R (oG b.aK (toNat a))) fun v1=>(cq (ff (((c.length:Int)+1)*24)) (J (.p0 (i64.wrap (a+1)) b (c++[[L.sl v1]])))))) (J (.p1 0 b c [])))
 | .p1 a b c d=>(cond (decide (a<(b.bn.length:Int))) (m2 a (b.bn.length:Int) (call (Z45.R (bK.at b.bn (toNat a))) fun v1=>(cq (ff (((d.length:Int)+1)*600)) (J (.p1 (i64.wrap (a+1)) b c (d++[(bK.enc v1)])))))) (ret ((⟨c,d⟩:bw):bw)))
def start (J:Pt->aI)(x0:bw):aI:=J (.p0 0 x0 [])
def live:Nat->Live:=fun i=>match i with | 3=>[(1,none),(2,none),(3,none),(4,none),(3,some 92)] | 7=>[(1,none),(2,none),(3,none),(5,none),(3,some 92),(3,some 1048856)] | _=>[]
def md (a0:au):au:=a0
def gd (a0:au):Prop:=(au.Sm (2^21) a0)
def R:=RR gd md
def aj {a0}(h:gd a0):R (au.r a0)=some (au.r a0):=aP (a:=a0) h
def aW:=CN [.agg rT] (.agg f37) RT.dec R
def bt (a0)(hg:gd a0):∃n,start (iter step n) (au.r a0)=ret (au.r (md a0)):=by
 unfold gd at hg
 have H0:=hg
 unfold start md
 try simp only [SS]
 have Bh2:a0.aK.length<=maxLen:=(by
   have:=(H0.1).1
   try simp only [maxLen] at *
   omega)
 refine ex_eq (out:=(fun b:au=>ret ((au.r b):bw))) (iK (xs:=a0.aK) (z:=[]) (t:=fun s3:List (List aa)=>(⟨s3,a0.bn⟩:au))) ?_
 refine dP (p:=Pt.p0 0 (au.r a0) ([].map (dO aa.row))) fz ?_
 refine cm (pt:=fun (i1:Nat) (s3:List (List aa))=>Pt.p0 (i1:Int) (au.r a0) (s3.map (dO aa.row))) (s:=([]:List (List aa))) (out:=(fun b:au=>ret ((au.r b):bw))) (fun (i1:Nat) (s3:List (List aa))=>s3.length<=([]:List Int).length+1*i1) (fun J i1 s3 h2 hih2=>?_) (fun s3 hih2=>?_) (by simp)
 ·simp only [step,SS]
  have gr_:=hih2
  try simp only [LN] at gr_
  have bb_:=Bh2
  simp only [maxLen] at bb_
  have:=(H0.1).1
  refine bB.yes (by apply decide_eq_true;omega) ?_
  refine bB.yes aJ ?_
  refine bB.yes (aO h2) ?_
  refine cr (Z44.aj (bM.getD (z:=[]) H0.1 h2)) ?_
  try simp only [SS]
  refine bB.yes lm ?_
  refine bB.inl (by
    have g_:=hih2
    try simp only [LN] at g_ ⊢
    first | omega | (simp;done) | (simp;omega)) ?_
  rw [aH h2 Bh2]
  all_goals exact fz
 ·simp only [step,SS]
  have gr_:=hih2
  try simp only [LN] at gr_
  have:=(H0.1).1
  refine dF (by apply decide_eq_false;omega) ?_
  have Bh5:a0.bn.length<=maxLen:=(by
    have:=(H0.2).1
    try simp only [maxLen] at *
    omega)
  refine ex_eq (out:=(fun b:au=>ret ((au.r b):bw))) (iK (xs:=a0.bn) (z:=aC.zero) (t:=fun s6:List aC=>(⟨s3,s6⟩:au))) ?_
  refine dP (p:=Pt.p1 0 (au.r a0) (s3.map (dO aa.row)) ([].map aC.row)) fz ?_
  refine cm (pt:=fun (i4:Nat) (s6:List aC)=>Pt.p1 (i4:Int) (au.r a0) (s3.map (dO aa.row)) (s6.map aC.row)) (s:=([]:List aC)) (out:=(fun b:au=>ret ((au.r b):bw))) (fun (i4:Nat) (s6:List aC)=>s6.length<=([]:List Int).length+1*i4) (fun J i4 s6 h5 hih5=>?_) (fun s6 hih5=>?_) (by simp)
  ·simp only [step,SS]
   have gr_:=hih5
   try simp only [LN] at gr_
   have bb_:=Bh5
   simp only [maxLen] at bb_
   have:=(H0.2).1
   refine bB.yes (by apply decide_eq_true;omega) ?_
   refine bB.yes aJ ?_
   refine bB.yes (aO h5) ?_
   refine cr (Z45.aj (bM.getD (z:=aC.zero) H0.2 h5)) ?_
   try simp only [SS]
   refine bB.yes lm ?_
   refine bB.inl (by
     have g_:=hih5
     try simp only [LN] at g_ ⊢
     first | omega | (simp;done) | (simp;omega)) ?_
   rw [aH h5 Bh5]
   all_goals exact fz
  ·simp only [step,SS]
   have gr_:=hih5
   try simp only [LN] at gr_
   have:=(H0.2).1
   refine dF (by apply decide_eq_false;omega) ?_
   refine ⟨0,?_⟩
   all_goals exact fz
def af:cz 165 aW:=L1 44 pid ck cj live step start mix aF bt (.cons Z44.af (.cons Z45.af .nil)) Tryz.func165
end Z46
namespace Z47
def F (x0 x1 x2:Int):aI:=(cond (decide (x0>=x1)) (ret ((decide (x0<=x2)):Bool)) bz)
def md (a0 a1 a2:Int):Bool:=(cond (decide (a0>=a1)) ((decide (a0<=a2)):Bool) (false:Bool))
def gd (a0 a1 a2:Int):Prop:=True
def R:=RR (p3 gd) (u3 md)
def aj {a0 a1 a2}(h:gd a0 a1 a2):R (a0,a1,a2)=some (md a0 a1 a2):=aP (a:=(a0,a1,a2)) h
def aW:=CN [pI,pI,pI] oB RT.dec R
def bt (a0)(a1)(a2)(hg:gd a0 a1 a2):F a0 a1 a2=ret (md a0 a1 a2):=by
 unfold F md
 try simp only [SS]
 refine av ret (fun c1=>?_) (fun _=>rfl)
 all_goals exact fz
def af:cz 224 aW:=W3 15 F mix aF bt .nil Tryz.func224
end Z47
namespace Z48
inductive Pt where
 | p0 (a:aD) (b:Int)
def pid:Pt->Nat
 | .p0 ..=>4
def ck:Pt->List V
 | .p0 a b=>[.str a,.int .i64 b]
def cj:Pt->List aY
 | .p0 a b=>[]
def step (J:Pt->aI):Pt->aI
 | .p0 a b=>(cond (decide (b<(a.size:Int))) (m2 b (a.size:Int) (cond (decide ((eB a (toNat b))<97)) (m2 b (a.size:Int) (cond (decide ((eB a (toNat b))<48)) (m2 b (a.size:Int) (cond ((eB a (toNat b)) != 45) bz (J (.p0 a (i64.wrap (b+1)))))) (m2 b (a.size:Int) (cond (decide ((eB a (toNat b))>57)) (m2 b (a.size:Int) (cond ((eB a (toNat b)) != 45) bz (J (.p0 a (i64.wrap (b+1)))))) (J (.p0 a (i64.wrap (b+1)))))))) (m2 b (a.size:Int) (cond (decide ((eB a (toNat b))>122)) (m2 b (a.size:Int) (cond (decide ((eB a (toNat b))<48)) (m2 b (a.size:Int) (cond ((eB a (toNat b)) != 45) bz (J (.p0 a (i64.wrap (b+1)))))) (m2 b (a.size:Int) (cond (decide ((eB a (toNat b))>57)) (m2 b (a.size:Int) (cond ((eB a (toNat b)) != 45) bz (J (.p0 a (i64.wrap (b+1)))))) (J (.p0 a (i64.wrap (b+1)))))))) (J (.p0 a (i64.wrap (b+1)))))))) (ret (true:Bool)))
def start (J:Pt->aI)(x0:aD):aI:=(call (Z47.R ((x0.size:Int),1,8)) fun v1=>(cond (!v1) bz (cq (decide ((0:Int)<(x0.size:Int))) (cond ((eB x0 0)==45) bz (cq (decide ((0:Int)<=(i64.wrap ((x0.size:Int) - 1)))) (cq (decide ((i64.wrap ((x0.size:Int) - 1))<(x0.size:Int))) (cond ((eB x0 (toNat (i64.wrap ((x0.size:Int) - 1))))==45) bz (J (.p0 x0 0)))))))))
def live:Nat->Live:=fun i=>match i with | 4=>[(0,none),(3,none)] | _=>[]
def md (a0:aD):Bool:=(bif (!(Z47.md (a0.size:Int) 1 8)) then (false:Bool) else (bif ((eB a0 0)==45) then (false:Bool) else (bif ((eB a0 (toNat (i64.wrap ((a0.size:Int) - 1))))==45) then (false:Bool) else (eD (S:=Unit) (β:=Bool) (fun (i4:Nat) (s6:Unit)=>(cond (decide ((eB a0 i4)<97)) (cond (decide ((eB a0 i4)<48)) (cond ((eB a0 i4) != 45) (.inr (false:Bool)) (.inl ())) (cond (decide ((eB a0 i4)>57)) (cond ((eB a0 i4) != 45) (.inr (false:Bool)) (.inl ())) (.inl ()))) (cond (decide ((eB a0 i4)>122)) (cond (decide ((eB a0 i4)<48)) (cond ((eB a0 i4) != 45) (.inr (false:Bool)) (.inl ())) (cond (decide ((eB a0 i4)>57)) (cond ((eB a0 i4) != 45) (.inr (false:Bool)) (.inl ())) (.inl ()))) (.inl ())))) (fun (s6:Unit)=>(true:Bool)) a0.size 0 ()))))
def gd (a0:aD):Prop:=(a0.size<=(2^22))
def R:=RR gd md
def aj {a0}(h:gd a0):R a0=some (md a0):=aP (a:=a0) h
def aW:=CN [pS] oB RT.dec R
def bt (a0)(hg:gd a0):∃n,start (iter step n) a0=ret (md a0):=by
 unfold gd at hg
 have H0:=hg
 unfold start md
 try simp only [SS]
 refine cx (Z47.aj trivial) ?_
 refine hU ret (fun _=>⟨0,rfl⟩) (fun c1=>?_)
 have dc1:=c1
 try simp only [DC] at dc1
 have Dc1:=c1
 try simp [Z47.md] at Dc1
 refine dN (have:=H0;dt) ?_
 refine hU ret (fun _=>⟨0,rfl⟩) (fun c2=>?_)
 have dc2:=c2
 try simp only [DC] at dc2
 refine dN (have:=H0;dt) ?_
 refine dN (have:=H0;dt) ?_
 refine hU ret (fun _=>⟨0,rfl⟩) (fun c3=>?_)
 have dc3:=c3
 try simp only [DC] at dc3
 have Bh5:a0.size<=maxLen:=(by
   have:=H0
   try simp only [maxLen] at *
   omega)
 refine dP (p:=Pt.p0 a0 0) fz ?_
 refine cm (pt:=fun (i4:Nat) (s6:Unit)=>Pt.p0 a0 (i4:Int)) (s:=(():Unit)) (out:=ret) (fun _ _=>True) (fun J i4 s6 h5 hih5=>?_) (fun s6 hih5=>?_) trivial
 ·simp only [step,SS]
  have bb_:=Bh5
  simp only [maxLen] at bb_
  have:=H0
  refine bB.yes (by apply decide_eq_true;omega) ?_
  refine bB.yes aJ ?_
  refine bB.yes (aO h5) ?_
  refine bB.bif (fun c7=>?_) (fun c7=>?_)
  ·refine bB.yes aJ ?_
   refine bB.yes (aO h5) ?_
   refine bB.bif (fun c8=>?_) (fun c8=>?_)
   ·refine bB.yes aJ ?_
    refine bB.yes (aO h5) ?_
    refine bB.bif (fun _=>bB.inr rfl) (fun c9=>?_)
    refine bB.inl trivial ?_
    rw [aH h5 Bh5]
    all_goals exact fz
   ·refine bB.yes aJ ?_
    refine bB.yes (aO h5) ?_
    refine bB.bif (fun c10=>?_) (fun c10=>?_)
    ·refine bB.yes aJ ?_
     refine bB.yes (aO h5) ?_
     refine bB.bif (fun _=>bB.inr rfl) (fun c11=>?_)
     refine bB.inl trivial ?_
     rw [aH h5 Bh5]
     all_goals exact fz
    ·refine bB.inl trivial ?_
     rw [aH h5 Bh5]
     all_goals exact fz
  ·refine bB.yes aJ ?_
   refine bB.yes (aO h5) ?_
   refine bB.bif (fun c12=>?_) (fun c12=>?_)
   ·refine bB.yes aJ ?_
    refine bB.yes (aO h5) ?_
    refine bB.bif (fun c13=>?_) (fun c13=>?_)
    ·refine bB.yes aJ ?_
     refine bB.yes (aO h5) ?_
     refine bB.bif (fun _=>bB.inr rfl) (fun c14=>?_)
     refine bB.inl trivial ?_
     rw [aH h5 Bh5]
     all_goals exact fz
    ·refine bB.yes aJ ?_
     refine bB.yes (aO h5) ?_
     refine bB.bif (fun c15=>?_) (fun c15=>?_)
     ·refine bB.yes aJ ?_
      refine bB.yes (aO h5) ?_
      refine bB.bif (fun _=>bB.inr rfl) (fun c16=>?_)
      refine bB.inl trivial ?_
      rw [aH h5 Bh5]
      all_goals exact fz
     ·refine bB.inl trivial ?_
      rw [aH h5 Bh5]
      all_goals exact fz
   ·refine bB.inl trivial ?_
    rw [aH h5 Bh5]
    all_goals exact fz
 ·simp only [step,SS]
  have:=H0
  refine dF (by apply decide_eq_false;omega) ?_
  refine ⟨0,?_⟩
  all_goals exact fz
def af:cz 308 aW:=L1 55 pid ck cj live step start mix aF bt (.cons Z47.af .nil) Tryz.func308
def tr {a0:aD}(h:md a0=true):1<=a0.size/\a0.size<=8:=by
 unfold md at h
 cases e:Z47.md (a0.size:Int) 1 8
 ·rw [e] at h;cases h
 ·simp [Z47.md] at e;omega
end Z48
namespace Z49
inductive Pt where
 | p0 (a:aE) (b:Int)
def pid:Pt->Nat
 | .p0 ..=>2
def ck:Pt->List V
 | .p0 a b=>[.sl none 9 a,.int .i64 b]
def cj:Pt->List aY
 | .p0 a b=>[]
def step (J:Pt->aI):Pt->aI
 | .p0 a b=>(cond (decide (b<(a.length:Int))) (m2 b (a.length:Int) (call (Z48.R (qi a (toNat b))) fun v1=>(cond (!v1) bz (J (.p0 a (i64.wrap (b+1))))))) (call (Z47.R ((a.length:Int),1,4)) fun v2=>ret (v2:Bool)))
def start (J:Pt->aI)(x0:aE):aI:=J (.p0 x0 0)
def live:Nat->Live:=fun i=>match i with | 2=>[(0,none),(3,none)] | _=>[]
def md (a0:List aD):Bool:=(ep (S:=Unit) (β:=Bool) (fun (y1:aD) (s3:Unit)=>(cond (!(Z48.md y1)) (.inr (false:Bool)) (.inl ()))) (fun (s3:Unit)=>((Z47.md (a0.length:Int) 1 4):Bool)) a0 ())
def gd (a0:List aD):Prop:=(bM (2^22) (fun y:aD=>y.size<=(2^22)) a0)
def R:=RR gd md
def aj {a0}(h:gd a0):R (a0.map cG)=some (md a0):=aP (a:=a0) h
def aW:=CN [pL 9] oB RT.dec R
def bt (a0)(hg:gd a0):∃n,start (iter step n) (a0.map cG)=ret (md a0):=by
 unfold gd at hg
 have H0:=hg
 unfold start md
 try simp only [SS]
 have Bh2:a0.length<=maxLen:=(by
   have:=(H0).1
   try simp only [maxLen] at *
   omega)
 refine ex_eq (out:=ret) (eM (z:=⟨#[]⟩)) ?_
 refine dP (p:=Pt.p0 (a0.map cG) 0) fz ?_
 refine cm (pt:=fun (i1:Nat) (s3:Unit)=>Pt.p0 (a0.map cG) (i1:Int)) (s:=(():Unit)) (out:=ret) (fun _ _=>True) (fun J i1 s3 h2 hih2=>?_) (fun s3 hih2=>?_) trivial
 ·simp only [step,SS]
  have bb_:=Bh2
  simp only [maxLen] at bb_
  have:=(H0).1
  refine bB.yes (by apply decide_eq_true;omega) ?_
  refine bB.yes aJ ?_
  refine bB.yes (aO h2) ?_
  refine cr (Z48.aj (bM.getD (z:=⟨#[]⟩) H0 h2)) ?_
  refine bB.bif (fun _=>bB.inr rfl) (fun c4=>?_)
  refine bB.inl trivial ?_
  rw [aH h2 Bh2]
  all_goals exact fz
 ·simp only [step,SS]
  have:=(H0).1
  refine dF (by apply decide_eq_false;omega) ?_
  refine cx (Z47.aj trivial) ?_
  refine ⟨0,?_⟩
  all_goals exact fz
def af:cz 132 aW:=L1 19 pid ck cj live step start mix aF bt (.cons Z48.af (.cons Z47.af .nil)) Tryz.func132
def tr {a0:List aD}(h:md a0=true):(1<=a0.length/\a0.length<=4)/\∀x∈a0,x.size<=8:=by
 have e:=mm (p:=fun y=>!(Z48.md y)) (b:=false) (c:=Z47.md (a0.length:Int) 1 4) (xs:=a0) (s:=())
 rw [show md a0=_ from e] at h
 cases ha:a0.any (fun y=>!(Z48.md y))<;>rw [ha] at h
 ·have h2:Z47.md (a0.length:Int) 1 4=true:=h
  simp [Z47.md] at h2
  refine ⟨by omega,fun x hx=>?_⟩
  rw [List.any_eq_false] at ha
  have:=ha x hx
  exact (Z48.tr (by simpa using this)).2
 ·cases h
def tl {x:aD}{xs:List aD}(h:md (x::xs)=true)(hx:¬xs.length=0):md xs=true:=by
 have key:∀a:List aD,md a=bif a.any (fun y=>!(Z48.md y)) then false else Z47.md (a.length:Int) 1 4:=fun a=>mm (p:=fun y=>!(Z48.md y)) (b:=false) (c:=Z47.md (a.length:Int) 1 4) (xs:=a) (s:=())
 have t:=tr h
 simp only [List.length_cons] at t
 rw [key] at h ⊢
 rw [List.any_cons] at h
 cases h1:xs.any (fun y=>!(Z48.md y)) with
 | true=>rw [h1,Bool.or_true] at h;cases h
 | false=>simp [Z47.md];omega
end Z49
namespace Z50
def F (x0:aE):aI:=(cq (ff ((x0.length:Int)*16)) (ret (x0:aE)))
def md (a0:List aD):List aD:=a0
def gd (a0:List aD):Prop:=(bM (2^21) (fun y:aD=>y.size<=(2^21)) a0)
def R:=RR gd md
def aj {a0}(h:gd a0):R (a0.map cG)=some (a0.map cG):=aP (a:=a0) h
def aW:=CN [pL 9] (oL 9) RT.dec R
def bt (a0)(hg:gd a0):F (a0.map cG)=ret ((md a0).map cG):=by
 unfold gd at hg
 have H0:=hg
 unfold F md
 try simp only [SS]
 refine ak (have:=(H0).1;lm) ?_
 all_goals exact fz
def af:cz 208 aW:=W1 6 F mix aF bt .nil Tryz.func208
end Z50
namespace Z51
inductive Pt where
 | p0 (a:Int) (b:bE)
def pid:Pt->Nat
 | .p0 ..=>2
def ck:Pt->List V
 | .p0 a b=>[.dz 0 0,.int .i64 a]
def cj:Pt->List aY
 | .p0 a b=>[.box [.sl none 3 b.aX,.int .i64 b.cF]]
def step (J:Pt->aI):Pt->aI
 | .p0 a b=>(cond (decide (a<(b.aX.length:Int))) (m2 a (b.aX.length:Int) (call (Z47.R ((jx b.aX (toNat a)),1,99)) fun v1=>(cond (!v1) bz (cond (decide (a>0)) (cq (decide ((0:Int)<=(i64.wrap (a - 1)))) (cq (decide ((i64.wrap (a - 1))<(b.aX.length:Int))) (m2 a (b.aX.length:Int) (cond (decide ((jx b.aX (toNat (i64.wrap (a - 1))))>=(jx b.aX (toNat a)))) bz (J (.p0 (i64.wrap (a+1)) b)))))) (J (.p0 (i64.wrap (a+1)) b)))))) (call (Z47.R ((b.aX.length:Int),1,4)) fun v2=>(cond v2 (call (Z47.R (b.cF,1,(b.aX.length:Int))) fun v3=>ret (v3:Bool)) bz)))
def start (J:Pt->aI)(x0:bE):aI:=J (.p0 0 x0)
def live:Nat->Live:=fun i=>match i with | 2=>[(1,none),(3,none)] | _=>[]
def md (a0:aM):Bool:=(dW (S:=Unit) (β:=Bool) (fun (i1:Nat) (y1:Int) (s3:Unit)=>(cond (!(Z47.md y1 1 99)) (.inr (false:Bool)) (cond (decide ((i1:Int)>0)) (cond (decide ((a0.aX.getD (toNat (i64.wrap ((i1:Int) - 1))) 0)>=y1)) (.inr (false:Bool)) (.inl ())) (.inl ())))) (fun (s3:Unit)=>(cond (Z47.md (a0.aX.length:Int) 1 4) ((Z47.md a0.cF 1 (a0.aX.length:Int)):Bool) (false:Bool))) 0 a0.aX ())
def gd (a0:aM):Prop:=(aM.Sm (2^21) a0)
def R:=RR gd md
def aj {a0}(h:gd a0):R (aM.r a0)=some (md a0):=aP (a:=a0) h
def aW:=CN [.agg qa] oB RT.dec R
def bt (a0)(hg:gd a0):∃n,start (iter step n) (aM.r a0)=ret (md a0):=by
 unfold gd at hg
 have H0:=hg
 unfold start md
 try simp only [SS]
 have Bh2:a0.aX.length<=maxLen:=(by
   have:=(H0).1
   try simp only [maxLen] at *
   omega)
 refine ex_eq (out:=ret) (cX (z:=0)) ?_
 refine dP (p:=Pt.p0 0 (aM.r a0)) fz ?_
 refine cm (pt:=fun (i1:Nat) (s3:Unit)=>Pt.p0 (i1:Int) (aM.r a0)) (s:=(():Unit)) (out:=ret) (fun _ _=>True) (fun J i1 s3 h2 hih2=>?_) (fun s3 hih2=>?_) trivial
 ·simp only [step,SS]
  have bb_:=Bh2
  simp only [maxLen] at bb_
  have:=(H0).1
  refine bB.yes (by apply decide_eq_true;omega) ?_
  refine bB.yes aJ ?_
  refine bB.yes (aO h2) ?_
  refine cr (Z47.aj trivial) ?_
  refine bB.bif (fun _=>bB.inr rfl) (fun c4=>?_)
  have dc4:=c4
  try simp only [DC] at dc4
  have Dc4:=c4
  try simp [Z47.md] at Dc4
  refine bB.bif (fun c5=>?_) (fun c5=>?_)
  ·have dc5:=c5
   try simp only [DC] at dc5
   refine bB.yes dt ?_
   refine bB.yes (have:=(H0).1;dt) ?_
   refine bB.yes aJ ?_
   refine bB.yes (aO h2) ?_
   refine bB.bif (fun _=>bB.inr rfl) (fun c6=>?_)
   refine bB.inl trivial ?_
   rw [aH h2 Bh2]
   all_goals exact fz
  ·refine bB.inl trivial ?_
   rw [aH h2 Bh2]
   all_goals exact fz
 ·simp only [step,SS]
  have:=(H0).1
  refine dF (by apply decide_eq_false;omega) ?_
  refine cx (Z47.aj trivial) ?_
  refine hU ret (fun c7=>?_) (fun _=>⟨0,rfl⟩)
  refine cx (Z47.aj trivial) ?_
  refine ⟨0,?_⟩
  all_goals exact fz
def af:cz 514 aW:=L1 48 pid ck cj live step start mix aF bt (.cons Z47.af .nil) Tryz.func514
def tr {a0:aM}(h:md a0=true):1<=a0.aX.length/\a0.aX.length<=4:=by
 refine Classical.byContradiction fun hc=>?_
 have e1:Z47.md (a0.aX.length:Int) 1 4=false:=by simp [Z47.md];omega
 unfold md at h
 rw [e1] at h
 have e2:∀s:Unit,(cond false (Z47.md a0.cF 1 (a0.aX.length:Int)) false)=false:=fun _=>rfl
 have h3:=lD (c:=false) (f:=fun (i1:Nat) (y1:Int) (s3:Unit)=>(cond (!(Z47.md y1 1 99)) (.inr (false:Bool)) (cond (decide ((i1:Int)>0)) (cond (decide ((a0.aX.getD (toNat (i64.wrap ((i1:Int) - 1))) 0)>=y1)) (.inr (false:Bool)) (.inl ())) (.inl ())))) (by
  intro i x s b h
  revert h
  simp only [Bool.cond_eq_ite]
  repeat' split
  all_goals (intro h;first | (cases h;rfl) | cases h)) a0.aX 0 ()
 simp only [bq] at h
 rw [h3] at h
 cases h
end Z51
namespace Z52
def F (x0:bE):aI:=(cond (x0.cF==0) (ret (((x0.aX.length:Int)==0):Bool)) bz)
def md (a0:aM):Bool:=(cond (a0.cF==0) (((a0.aX.length:Int)==0):Bool) (false:Bool))
def gd (a0:aM):Prop:=True
def R:=RR gd md
def aj {a0}(h:gd a0):R (aM.r a0)=some (md a0):=aP (a:=a0) h
def aW:=CN [.agg qa] oB RT.dec R
def bt (a0)(hg:gd a0):F (aM.r a0)=ret (md a0):=by
 unfold F md
 try simp only [SS]
 refine av ret (fun c1=>?_) (fun _=>rfl)
 all_goals exact fz
def af:cz 515 aW:=W1 12 F mix aF bt .nil Tryz.func515
end Z52
namespace Z53
def F (x0:cg):aI:=(call (Z47.R (x0.bC,0,2147483646)) fun v1=>(cond (!v1) bz (call (Z47.R (x0.dm,0,2147483646)) fun v2=>(cond (!v2) bz (call (Z47.R (x0.dH,0,2147483646)) fun v3=>(cond (!v3) bz (call (Z47.R (x0.cN,0,200)) fun v4=>(cond (!v4) bz (call (Z47.R (x0.bI,1,3)) fun v5=>(cond (!v5) bz (call (Z47.R (x0.cK,0,100000)) fun v6=>(cond (!v6) bz (call (Z47.R (x0.cC,x0.cK,100000)) fun v7=>(cond (!v7) bz (cond (decide ((i64.wrap (x0.cC - x0.cK))>200)) bz (call (Z47.R (x0.cy,0,12)) fun v8=>(cond (!v8) bz (call (Z51.R x0.bP) fun v9=>(cond (!v9) bz (call (Z52.R x0.bD) fun v10=>(cond v10 (cond (x0.dw != 0) bz (call (Z51.R x0.bA) fun v11=>(cond v11 (ret (true:Bool)) (call (Z52.R x0.bA) fun v12=>(cond v12 (ret ((!x0.bG):Bool)) bz))))) (call (Z51.R x0.bD) fun v13=>(cond (!v13) bz (call (Z47.R (x0.dw,1,500)) fun v14=>(cond (!v14) bz (call (Z51.R x0.bA) fun v15=>(cond v15 (ret (true:Bool)) (call (Z52.R x0.bA) fun v16=>(cond v16 (ret ((!x0.bG):Bool)) bz)))))))))))))))))))))))))))))
def md (a0:aG):Bool:=(cond (!(Z47.md a0.bC 0 2147483646)) (false:Bool) (cond (!(Z47.md a0.dm 0 2147483646)) (false:Bool) (cond (!(Z47.md a0.dH 0 2147483646)) (false:Bool) (cond (!(Z47.md a0.cN 0 200)) (false:Bool) (cond (!(Z47.md a0.bI 1 3)) (false:Bool) (cond (!(Z47.md a0.cK 0 100000)) (false:Bool) (cond (!(Z47.md a0.cC a0.cK 100000)) (false:Bool) (cond (decide ((i64.wrap (a0.cC - a0.cK))>200)) (false:Bool) (cond (!(Z47.md a0.cy 0 12)) (false:Bool) (cond (!(Z51.md a0.bP)) (false:Bool) (cond (Z52.md a0.bD) (cond (a0.dw != 0) (false:Bool) (cond (Z51.md a0.bA) (true:Bool) (cond (Z52.md a0.bA) ((!a0.bG):Bool) (false:Bool)))) (cond (!(Z51.md a0.bD)) (false:Bool) (cond (!(Z47.md a0.dw 1 500)) (false:Bool) (cond (Z51.md a0.bA) (true:Bool) (cond (Z52.md a0.bA) ((!a0.bG):Bool) (false:Bool))))))))))))))))
def gd (a0:aG):Prop:=(aG.Sm (2^21) a0)
def R:=RR gd md
def aj {a0}(h:gd a0):R (aG.r a0)=some (md a0):=aP (a:=a0) h
def aW:=CN [.agg gi] oB RT.dec R
def bt (a0)(hg:gd a0):F (aG.r a0)=ret (md a0):=by
 unfold gd at hg
 have H0:=hg
 unfold F md
 try simp only [SS]
 refine ct (Z47.aj trivial) ?_
 refine av ret (fun _=>rfl) (fun c1=>?_)
 refine ct (Z47.aj trivial) ?_
 refine av ret (fun _=>rfl) (fun c2=>?_)
 refine ct (Z47.aj trivial) ?_
 refine av ret (fun _=>rfl) (fun c3=>?_)
 refine ct (Z47.aj trivial) ?_
 refine av ret (fun _=>rfl) (fun c4=>?_)
 refine ct (Z47.aj trivial) ?_
 refine av ret (fun _=>rfl) (fun c5=>?_)
 refine ct (Z47.aj trivial) ?_
 refine av ret (fun _=>rfl) (fun c6=>?_)
 refine ct (Z47.aj trivial) ?_
 refine av ret (fun _=>rfl) (fun c7=>?_)
 refine av ret (fun _=>rfl) (fun c8=>?_)
 refine ct (Z47.aj trivial) ?_
 refine av ret (fun _=>rfl) (fun c9=>?_)
 refine ct (Z51.aj H0.1) ?_
 refine av ret (fun _=>rfl) (fun c10=>?_)
 refine ct (Z52.aj trivial) ?_
 refine av ret (fun c11=>?_) (fun c11=>?_)
 ·refine av ret (fun _=>rfl) (fun c12=>?_)
  refine ct (Z51.aj H0.2.2) ?_
  refine av ret (fun _=>rfl) (fun c13=>?_)
  refine ct (Z52.aj trivial) ?_
  refine av ret (fun c14=>?_) (fun _=>rfl)
  all_goals exact fz
 ·refine ct (Z51.aj H0.2.1) ?_
  refine av ret (fun _=>rfl) (fun c15=>?_)
  refine ct (Z47.aj trivial) ?_
  refine av ret (fun _=>rfl) (fun c16=>?_)
  refine ct (Z51.aj H0.2.2) ?_
  refine av ret (fun _=>rfl) (fun c17=>?_)
  refine ct (Z52.aj trivial) ?_
  refine av ret (fun c18=>?_) (fun _=>rfl)
  all_goals exact fz
def af:cz 438 aW:=W1 92 F mix aF bt (.cons Z47.af (.cons Z51.af (.cons Z52.af .nil))) Tryz.func438
def tr {a0:aG}(h:md a0=true):(1<=a0.bI/\a0.bI<=3)/\0<=a0.cK/\a0.cK<=a0.cC/\a0.cC<=100000/\0<=a0.cy/\a0.cy<=12:=by
 have key:∀x y z:Int,Z47.md x y z=true->y<=x/\x<=z:=fun x y z h=>by simpa [Z47.md] using h
 unfold md at h
 simp only [A6,Bool.not_not,Bool.and_eq_true] at h
 obtain ⟨_,_,_,_,h5,h6,h7,_,h8,_⟩:=h
 have:=key _ _ _ h5
 have:=key _ _ _ h6
 have:=key _ _ _ h7
 have:=key _ _ _ h8
 omega
end Z53
namespace Z54
def F (x0:bE):aI:=(cq (ff (((2:Int)+(x0.aX.length:Int))*8)) (ret (([[L.int x0.cF],[L.int (x0.aX.length:Int)]]++x0.aX):aE)))
def md (a0:aM):List Int:=([a0.cF,(a0.aX.length:Int)]++a0.aX)
def gd (a0:aM):Prop:=(aM.Sm (2^21) a0)
def R:=RR gd md
def aj {a0}(h:gd a0):R (aM.r a0)=some ((md a0).map bk):=aP (a:=a0) h
def aW:=CN [.agg qa] (oL 3) RT.dec R
def bt (a0)(hg:gd a0):F (aM.r a0)=ret ((md a0).map bk):=by
 unfold gd at hg
 have H0:=hg
 unfold F md
 try simp only [SS]
 refine ak (have:=(H0).1;lm) ?_
 all_goals exact fz
def af:cz 517 aW:=W1 12 F mix aF bt .nil Tryz.func517
def len (a0:aM):(md a0).length=2+a0.aX.length:=by simp [md];omega
end Z54
namespace Z55
def F (x0 x1:Int):aI:=(call (Z47.R (x1,1,1000000000000)) fun v1=>(cond (!v1) (ret (0:Int)) (cond (decide (x1=0)) none (cond (decide (x1=0)) none (ret ((Int.tmod (i64.wrap ((Int.tmod x0 x1)+x1)) x1):Int))))))
def md (a0 a1:Int):Int:=(cond (!(Z47.md a1 1 1000000000000)) (0:Int) ((Int.tmod (i64.wrap ((Int.tmod a0 a1)+a1)) a1):Int))
def gd (a0 a1:Int):Prop:=True
def R:=RR (p2 gd) (u2 md)
def aj {a0 a1}(h:gd a0 a1):R (a0,a1)=some (md a0 a1):=aP (a:=(a0,a1)) h
def aW:=CN [pI,pI] oI RT.dec R
def bt (a0)(a1)(hg:gd a0 a1):F a0 a1=ret (md a0 a1):=by
 unfold F md
 try simp only [SS]
 refine ct (Z47.aj trivial) ?_
 refine av ret (fun _=>rfl) (fun c1=>?_)
 have dc1:=c1
 try simp only [DC] at dc1
 have Dc1:=c1
 try simp [Z47.md] at Dc1
 refine cT df ?_
 refine cT df ?_
 all_goals exact fz
def af:cz 567 aW:=W2 15 F mix aF bt (.cons Z47.af .nil) Tryz.func567
end Z55
namespace Z56
inductive Pt where
 | p0 (a:aE) (b c:Int)
def pid:Pt->Nat
 | .p0 ..=>3
def ck:Pt->List V
 | .p0 a b c=>[.sl none 3 a,.int .i64 b,.int .i64 c]
def cj:Pt->List aY
 | .p0 a b c=>[]
def step (J:Pt->aI):Pt->aI
 | .p0 a b c=>(cond (decide (c<(a.length:Int))) (m2 c (a.length:Int) (call (Z55.R ((jx a (toNat c)),2147483647)) fun v1=>J (.p0 a (Int.tmod (i64.wrap ((i64.wrap ((i64.wrap (b*1000003))+v1))+13)) 2147483647) (i64.wrap (c+1))))) (ret (b:Int)))
def start (J:Pt->aI)(x0:aE):aI:=J (.p0 x0 11 0)
def live:Nat->Live:=fun i=>match i with | 3=>[(0,none),(3,none),(4,none)] | _=>[]
def md (a0:List Int):Int:=(ep (S:=Int) (β:=Int) (fun (y1:Int) (s3:Int)=>(.inl (Int.tmod (i64.wrap ((i64.wrap ((i64.wrap (s3*1000003))+(Z55.md y1 2147483647)))+13)) 2147483647))) (fun (s3:Int)=>(s3:Int)) a0 11)
def gd (a0:List Int):Prop:=(bM (2^43) (fun y:Int=>True) a0)
def R:=RR gd md
def aj {a0}(h:gd a0):R (a0.map bk)=some (md a0):=aP (a:=a0) h
def aW:=CN [pL 3] oI RT.dec R
def bt (a0)(hg:gd a0):∃n,start (iter step n) (a0.map bk)=ret (md a0):=by
 unfold gd at hg
 have H0:=hg
 unfold start md
 try simp only [SS]
 have Bh2:a0.length<=maxLen:=(by
   have:=(H0).1
   try simp only [maxLen] at *
   omega)
 refine ex_eq (out:=ret) (eM (z:=0)) ?_
 refine dP (p:=Pt.p0 (a0.map bk) 11 0) fz ?_
 refine cm (pt:=fun (i1:Nat) (s3:Int)=>Pt.p0 (a0.map bk) s3 (i1:Int)) (s:=(11:Int)) (out:=ret) (fun _ _=>True) (fun J i1 s3 h2 hih2=>?_) (fun s3 hih2=>?_) trivial
 ·simp only [step,SS]
  have bb_:=Bh2
  simp only [maxLen] at bb_
  have:=(H0).1
  refine bB.yes (by apply decide_eq_true;omega) ?_
  refine bB.yes aJ ?_
  refine bB.yes (aO h2) ?_
  refine cr (Z55.aj trivial) ?_
  refine bB.inl trivial ?_
  rw [aH h2 Bh2]
  all_goals exact fz
 ·simp only [step,SS]
  have:=(H0).1
  refine dF (by apply decide_eq_false;omega) ?_
  refine ⟨0,?_⟩
  all_goals exact fz
def af:cz 516 aW:=L1 22 pid ck cj live step start mix aF bt (.cons Z55.af .nil) Tryz.func516
end Z56
namespace Z57
def F (x0:bE)(x1:Int):aI:=(call (Z54.R x0) fun v1=>(cq (ff (((2:Int)+(v1.length:Int))*8)) (call (Z56.R ([[L.int 239],[L.int x1]]++v1)) fun v2=>ret (v2:Int))))
def md (a0:aM)(a1:Int):Int:=((Z56.md ([239,a1]++(Z54.md a0))):Int)
def gd (a0:aM)(a1:Int):Prop:=(aM.Sm (2^21) a0)
def R:=RR (p2 gd) (u2 md)
def aj {a0 a1}(h:gd a0 a1):R ((aM.r a0),a1)=some (md a0 a1):=aP (a:=(a0,a1)) h
def aW:=CN [.agg qa,pI] oI RT.dec R
def bt (a0)(a1)(hg:gd a0 a1):F (aM.r a0) a1=ret (md a0 a1):=by
 unfold gd at hg
 have H0:=hg
 unfold F md
 try simp only [SS]
 refine ct (Z54.aj H0) ?_
 try simp only [SS]
 refine ak (have:=Z54.len a0;have:=(H0).1;lm) ?_
 refine bg (Z56.md ([239,a1]++(Z54.md a0))) (rq (Z56.aj (a0:=([239,a1]++(Z54.md a0))) ⟨(have:=Z54.len a0;have:=(H0).1;om),fun _ _=>trivial⟩)) ?_
 all_goals exact fz
def af:cz 439 aW:=W2 11 F mix aF bt (.cons Z54.af (.cons Z56.af .nil)) Tryz.func439
end Z57
namespace Z58
def F (x0:cg):aI:=(call (Z54.R x0.bP) fun v1=>(cq (ff (((8:Int)+(v1.length:Int))*8)) (call (Z54.R x0.bD) fun v2=>(cq (ff (((([[L.int x0.bC],[L.int x0.cN],[L.int x0.bI],[L.int x0.cK],[L.int x0.cC],[L.int x0.cy],[L.int x0.dm],[L.int x0.dH]]++v1).length:Int)+(v2.length:Int))*8)) (cq (ff ((((([[L.int x0.bC],[L.int x0.cN],[L.int x0.bI],[L.int x0.cK],[L.int x0.cC],[L.int x0.cy],[L.int x0.dm],[L.int x0.dH]]++v1)++v2).length:Int)+1)*8)) (call (Z54.R x0.bA) fun v3=>(cq (ff (((((([[L.int x0.bC],[L.int x0.cN],[L.int x0.bI],[L.int x0.cK],[L.int x0.cC],[L.int x0.cy],[L.int x0.dm],[L.int x0.dH]]++v1)++v2)++[[L.int x0.dw]]).length:Int)+(v3.length:Int))*8)) (cond x0.bG (cq (ff ((((((([[L.int x0.bC],[L.int x0.cN],[L.int x0.bI],[L.int x0.cK],[L.int x0.cC],[L.int x0.cy],[L.int x0.dm],[L.int x0.dH]]++v1)++v2)++[[L.int x0.dw]])++v3).length:Int)+1)*8)) (ret (((((([[L.int x0.bC],[L.int x0.cN],[L.int x0.bI],[L.int x0.cK],[L.int x0.cC],[L.int x0.cy],[L.int x0.dm],[L.int x0.dH]]++v1)++v2)++[[L.int x0.dw]])++v3)++[[L.int 1]]):aE))) (cq (ff ((((((([[L.int x0.bC],[L.int x0.cN],[L.int x0.bI],[L.int x0.cK],[L.int x0.cC],[L.int x0.cy],[L.int x0.dm],[L.int x0.dH]]++v1)++v2)++[[L.int x0.dw]])++v3).length:Int)+1)*8)) (ret (((((([[L.int x0.bC],[L.int x0.cN],[L.int x0.bI],[L.int x0.cK],[L.int x0.cC],[L.int x0.cy],[L.int x0.dm],[L.int x0.dH]]++v1)++v2)++[[L.int x0.dw]])++v3)++[[L.int 0]]):aE)))))))))))
def md (a0:aG):List Int:=(cond a0.bG ((((([a0.bC,a0.cN,a0.bI,a0.cK,a0.cC,a0.cy,a0.dm,a0.dH]++(Z54.md a0.bP))++(Z54.md a0.bD))++[a0.dw])++(Z54.md a0.bA))++[1]) ((((([a0.bC,a0.cN,a0.bI,a0.cK,a0.cC,a0.cy,a0.dm,a0.dH]++(Z54.md a0.bP))++(Z54.md a0.bD))++[a0.dw])++(Z54.md a0.bA))++[0]))
def gd (a0:aG):Prop:=(aG.Sm (2^21) a0)
def R:=RR gd md
def aj {a0}(h:gd a0):R (aG.r a0)=some ((md a0).map bk):=aP (a:=a0) h
def aW:=CN [.agg gi] (oL 3) RT.dec R
def bt (a0)(hg:gd a0):F (aG.r a0)=ret ((md a0).map bk):=by
 unfold gd at hg
 have H0:=hg
 unfold F md
 try simp only [SS]
 refine ct (Z54.aj H0.1) ?_
 try simp only [SS]
 refine ak (have:=Z54.len a0.bP;have:=(H0.1).1;lm) ?_
 refine ct (Z54.aj H0.2.1) ?_
 try simp only [SS]
 refine ak (have:=Z54.len a0.bP;have:=(H0.1).1;have:=Z54.len a0.bD;have:=(H0.2.1).1;lm) ?_
 refine ak (have:=Z54.len a0.bP;have:=(H0.1).1;have:=Z54.len a0.bD;have:=(H0.2.1).1;lm) ?_
 refine ct (Z54.aj H0.2.2) ?_
 try simp only [SS]
 refine ak (have:=Z54.len a0.bP;have:=(H0.1).1;have:=Z54.len a0.bD;have:=(H0.2.1).1;have:=Z54.len a0.bA;have:=(H0.2.2).1;lm) ?_
 refine av (fun b:List Int=>ret ((b.map bk):aE)) (fun c1=>?_) (fun c1=>?_)
 ·refine ak (have:=Z54.len a0.bP;have:=(H0.1).1;have:=Z54.len a0.bD;have:=(H0.2.1).1;have:=Z54.len a0.bA;have:=(H0.2.2).1;lm) ?_
  all_goals exact fz
 ·refine ak (have:=Z54.len a0.bP;have:=(H0.1).1;have:=Z54.len a0.bD;have:=(H0.2.1).1;have:=Z54.len a0.bA;have:=(H0.2.2).1;lm) ?_
  all_goals exact fz
def af:cz 441 aW:=W1 49 F mix aF bt (.cons Z54.af .nil) Tryz.func441
def len (a0:aG):(md a0).length=16+a0.bP.aX.length+a0.bD.aX.length+a0.bA.aX.length:=by unfold md;cases a0.bG<;>simp [Z54.md]<;>omega
def AA {k l:aM}{x y:List Int}(h:Z54.md k++x=Z54.md l++y):k=l/\x=y:=by
 obtain ⟨kl,kn⟩:=k
 obtain ⟨ll,ln⟩:=l
 simp only [Z54.md,List.cons_append,List.nil_append,List.cons.injEq] at h
 obtain ⟨h1,h2,h3⟩:=h
 obtain ⟨h4,h5⟩:=List.append_inj h3 (by omega)
 exact ⟨by rw [h1,h4],h5⟩
def tM (a:aG):md a=a.bC::a.cN::a.bI::a.cK::a.cC::a.cy::a.dm::a.dH::(Z54.md a.bP++(Z54.md a.bD++(a.dw::(Z54.md a.bA++[bif a.bG then 1 else 0])))):=by
 unfold md
 cases a.bG<;>simp only [bh,bq,List.append_assoc,List.cons_append,List.nil_append]
def inj {a b:aG}(h:md a=md b):a=b:=by
 rw [tM,tM] at h
 simp only [List.cons.injEq] at h
 obtain ⟨g1,g2,g3,g4,g5,g6,g7,g8,g9⟩:=h
 obtain ⟨k1,g9⟩:=AA g9
 obtain ⟨k2,g9⟩:=AA g9
 simp only [List.cons.injEq] at g9
 obtain ⟨k3,g9⟩:=g9
 obtain ⟨k4,g9⟩:=AA g9
 have k5:a.bG=b.bG:=by
  simp only [List.cons.injEq,and_true] at g9
  revert g9
  cases a.bG<;>cases b.bG<;>simp
 cases a;cases b
 simp only [aG.mk.injEq]
 exact ⟨g1,g2,g3,g4,g5,g6,g7,g8,k1,k2,k3,k4,k5⟩
end Z58
namespace Z59
def F (x0:Int)(x1:aE):aI:=(cq (ff (((1:Int)+(x1.length:Int))*8)) (cq (ff (((([[L.int x0]]++x1).length:Int)+1)*8)) (call (Z56.R (([[L.int x0]]++x1)++[[L.int x0]])) fun v1=>ret (v1:Int))))
def md (a0:Int)(a1:List Int):Int:=((Z56.md (([a0]++a1)++[a0])):Int)
def gd (a0:Int)(a1:List Int):Prop:=(bM (2^40) (fun y:Int=>True) a1)
def R:=RR (p2 gd) (u2 md)
def aj {a0 a1}(h:gd a0 a1):R (a0,(a1.map bk))=some (md a0 a1):=aP (a:=(a0,a1)) h
def aW:=CN [pI,pL 3] oI RT.dec R
def bt (a0)(a1)(hg:gd a0 a1):F a0 (a1.map bk)=ret (md a0 a1):=by
 unfold gd at hg
 have H1:=hg
 unfold F md
 try simp only [SS]
 refine ak (have:=(H1).1;lm) ?_
 refine ak (have:=(H1).1;lm) ?_
 refine bg (Z56.md (([a0]++a1)++[a0])) (rq (Z56.aj (a0:=(([a0]++a1)++[a0])) ⟨(have:=(H1).1;om),fun _ _=>trivial⟩)) ?_
 all_goals exact fz
def af:cz 588 aW:=W2 13 F mix aF bt (.cons Z56.af .nil) Tryz.func588
end Z59
namespace Z60
def F (x0:Int)(x1:aE):aI:=(cq (ff (((1:Int)+(x1.length:Int))*8)) (call (Z59.R (x0,([[L.int 223]]++x1))) fun v1=>ret (v1:Int)))
def md (a0:Int)(a1:List Int):Int:=((Z59.md a0 ([223]++a1)):Int)
def gd (a0:Int)(a1:List Int):Prop:=(bM (2^39) (fun y:Int=>True) a1)
def R:=RR (p2 gd) (u2 md)
def aj {a0 a1}(h:gd a0 a1):R (a0,(a1.map bk))=some (md a0 a1):=aP (a:=(a0,a1)) h
def aW:=CN [pI,pL 3] oI RT.dec R
def bt (a0)(a1)(hg:gd a0 a1):F a0 (a1.map bk)=ret (md a0 a1):=by
 unfold gd at hg
 have H1:=hg
 unfold F md
 try simp only [SS]
 refine ak (have:=(H1).1;lm) ?_
 refine bg (Z59.md a0 ([223]++a1)) (rq (Z59.aj (a0:=a0) (a1:=([223]++a1)) ⟨(have:=(H1).1;om),fun _ _=>trivial⟩)) ?_
 all_goals exact fz
def af:cz 571 aW:=W2 10 F mix aF bt (.cons Z59.af .nil) Tryz.func571
end Z60
namespace Z61
def F (x0:bp)(x1:aE):aI:=(call (Z47.R (x0.gU,1,99)) fun v1=>(cond v1 (call (Z60.R (x0.gU,x1)) fun v2=>ret ((x0.jz==v2):Bool)) bz))
def md (a0:bp)(a1:List Int):Bool:=(cond (Z47.md a0.gU 1 99) ((a0.jz==(Z60.md a0.gU a1)):Bool) (false:Bool))
def gd (a0:bp)(a1:List Int):Prop:=(bM (2^38) (fun y:Int=>True) a1)
def R:=RR (p2 gd) (u2 md)
def aj {a0 a1}(h:gd a0 a1):R (a0,(a1.map bk))=some (md a0 a1):=aP (a:=(a0,a1)) h
def aW:=CN [.agg xZ,pL 3] oB RT.dec R
def bt (a0)(a1)(hg:gd a0 a1):F a0 (a1.map bk)=ret (md a0 a1):=by
 unfold gd at hg
 have H1:=hg
 unfold F md
 try simp only [SS]
 refine ct (Z47.aj trivial) ?_
 refine av ret (fun c1=>?_) (fun _=>rfl)
 refine ct (Z60.aj (H1.mono (by decide) (fun x hx=>trivial))) ?_
 all_goals exact fz
def af:cz 568 aW:=W2 17 F mix aF bt (.cons Z47.af (.cons Z60.af .nil)) Tryz.func568
end Z61
namespace Z62
inductive Pt where
 | p0 (a b:aE) (c d:Int) (e:bE)
 | p1 (a b:aE) (c d e:Int) (f:bE)
def pid:Pt->Nat
 | .p0 ..=>3
 | .p1 ..=>6
def ck:Pt->List V
 | .p0 a b c d e=>[.sl none 3 a,.sl none 428 b,.dz 0 0,.int .i64 c,.int .i64 d]
 | .p1 a b c d e f=>[.sl none 3 a,.sl none 428 b,.dz 0 0,.int .i64 c,.int .i64 d,.int .i64 e]
def cj:Pt->List aY
 | .p0 a b c d e=>[.box [.sl none 3 e.aX,.int .i64 e.cF]]
 | .p1 a b c d e f=>[.box [.sl none 3 f.aX,.int .i64 f.cF]]
def step (J:Pt->aI):Pt->aI
 | .p0 a b c d e=>(cond (decide (d<(e.aX.length:Int))) (J (.p1 a b c d 0 e)) (ret (c:Int)))
 | .p1 a b c d e f=>(cond (decide (e<(b.length:Int))) (m2 e (b.length:Int) (m2 d (f.aX.length:Int) (cond ((bp.at b (toNat e)).gU==(jx f.aX (toNat d))) (m2 e (b.length:Int) (call (Z61.R ((bp.at b (toNat e)),a)) fun v1=>(cond v1 (J (.p0 a b (i64.wrap (c+1)) (i64.wrap (d+1)) f)) (J (.p1 a b c d (i64.wrap (e+1)) f))))) (J (.p1 a b c d (i64.wrap (e+1)) f))))) (J (.p0 a b c (i64.wrap (d+1)) f)))
def start (J:Pt->aI)(x0:bE)(x1 x2:aE):aI:=J (.p0 x1 x2 0 0 x0)
def live:Nat->Live:=fun i=>match i with | 3=>[(1,none),(2,none),(3,none),(7,none),(8,none)] | 6=>[(1,none),(2,none),(3,none),(7,none),(8,none),(9,none)] | _=>[]
def md (a0:aM)(a1:List Int)(a2:List bp):Int:=(ep (S:=Int) (β:=Int) (fun (y1:Int) (s3:Int)=>(ep (S:=Unit) (β:=(Int⊕Int)) (fun (y5:bp) (s7:Unit)=>(cond (y5.gU==y1) (cond (Z61.md y5 a1) (.inr (.inl (i64.wrap (s3+1)))) (.inl ())) (.inl ()))) (fun (s7:Unit)=>(.inl s3)) a2 ())) (fun (s3:Int)=>(s3:Int)) a0.aX 0)
def gd (a0:aM)(a1:List Int)(a2:List bp):Prop:=(aM.Sm (2^21) a0)/\(bM (2^38) (fun y:Int=>True) a1)/\(bM (2^21) (fun y:bp=>bp.Sm (2^21) y) a2)
def R:=RR (p3 gd) (u3 md)
def aj {a0 a1 a2}(h:gd a0 a1 a2):R ((aM.r a0),(a1.map bk),(a2.map bp.row))=some (md a0 a1 a2):=aP (a:=(a0,a1,a2)) h
def aW:=CN [.agg qa,pL 3,pL 428] oI RT.dec R
def bt (a0)(a1)(a2)(hg:gd a0 a1 a2):∃n,start (iter step n) (aM.r a0) (a1.map bk) (a2.map bp.row)=ret (md a0 a1 a2):=by
 obtain ⟨H0,H1,H2⟩:=hg
 unfold start md
 try simp only [SS]
 have Bh2:a0.aX.length<=maxLen:=(by
   have:=(H0).1
   try simp only [maxLen] at *
   omega)
 refine ex_eq (out:=ret) (eM (z:=0)) ?_
 refine dP (p:=Pt.p0 (a1.map bk) (a2.map bp.row) 0 0 (aM.r a0)) fz ?_
 refine um (pt:=fun (i1:Nat) (s3:Int)=>Pt.p0 (a1.map bk) (a2.map bp.row) s3 (i1:Int) (aM.r a0)) (s:=(0:Int)) (out:=ret) (fun _ _=>True) (fun i1 s3 h2 hih2 K4 hK4 rK4=>?_) (fun s3 hih2=>?_) trivial
 ·simp only [step,SS]
  have bb_:=Bh2
  simp only [maxLen] at bb_
  have:=(H0).1
  refine dN (by apply decide_eq_true;omega) ?_
  have Bh6:a2.length<=maxLen:=(by
    have:=(H2).1
    try simp only [maxLen] at *
    omega)
  refine ex_eq (out:=K4) (eM (z:=bp.zero)) ?_
  refine dP (p:=Pt.p1 (a1.map bk) (a2.map bp.row) s3 (i1:Int) 0 (aM.r a0)) fz ?_
  refine um (pt:=fun (i5:Nat) (s7:Unit)=>Pt.p1 (a1.map bk) (a2.map bp.row) s3 (i1:Int) (i5:Int) (aM.r a0)) (s:=(():Unit)) (out:=K4) (fun _ _=>True) (fun i5 s7 h6 hih6 K8 hK8 rK8=>?_) (fun s7 hih6=>?_) trivial
  ·simp only [step,SS]
   have bb_:=Bh6
   simp only [maxLen] at bb_
   have:=(H2).1
   refine dN (by apply decide_eq_true;omega) ?_
   refine dN aJ ?_
   refine dN (aO h6) ?_
   refine dN dt ?_
   refine dN (have:=(H0).1;dt) ?_
   refine hU K8 (fun c9=>?_) (fun c9=>?_)
   ·refine dN aJ ?_
    refine dN (aO h6) ?_
    refine cx (Z61.aj H1) ?_
    refine hU K8 (fun c10=>?_) (fun c10=>?_)
    ·rw [rK8]
     rw [aH h2 Bh2]
     first | exact hK4 _ trivial | (simp only [SS];exact hK4 _ trivial) | (simp only [MP];exact hK4 _ trivial)
    ·rw [aH h6 Bh6]
     first | exact hK8 _ trivial | (simp only [SS];exact hK8 _ trivial) | (simp only [MP];exact hK8 _ trivial)
   ·rw [aH h6 Bh6]
    first | exact hK8 _ trivial | (simp only [SS];exact hK8 _ trivial) | (simp only [MP];exact hK8 _ trivial)
  ·simp only [step,SS]
   have:=(H2).1
   refine dF (by apply decide_eq_false;omega) ?_
   rw [aH h2 Bh2]
   first | exact hK4 _ trivial | (simp only [SS];exact hK4 _ trivial) | (simp only [MP];exact hK4 _ trivial)
 ·simp only [step,SS]
  have:=(H0).1
  refine dF (by apply decide_eq_false;omega) ?_
  refine ⟨0,?_⟩
  all_goals exact fz
def af:cz 518 aW:=L3 45 pid ck cj live step start mix aF bt (.cons Z61.af .nil) Tryz.func518
end Z62
namespace Z63
def F (x0:bE)(x1 x2:aE):aI:=(call (Z51.R x0) fun v1=>(cond v1 (call (Z62.R (x0,x1,x2)) fun v2=>ret ((decide (v2>=x0.cF)):Bool)) bz))
def md (a0:aM)(a1:List Int)(a2:List bp):Bool:=(cond (Z51.md a0) ((decide ((Z62.md a0 a1 a2)>=a0.cF)):Bool) (false:Bool))
def gd (a0:aM)(a1:List Int)(a2:List bp):Prop:=(aM.Sm (2^21) a0)/\(bM (2^38) (fun y:Int=>True) a1)/\(bM (2^21) (fun y:bp=>bp.Sm (2^21) y) a2)
def R:=RR (p3 gd) (u3 md)
def aj {a0 a1 a2}(h:gd a0 a1 a2):R ((aM.r a0),(a1.map bk),(a2.map bp.row))=some (md a0 a1 a2):=aP (a:=(a0,a1,a2)) h
def aW:=CN [.agg qa,pL 3,pL 428] oB RT.dec R
def bt (a0)(a1)(a2)(hg:gd a0 a1 a2):F (aM.r a0) (a1.map bk) (a2.map bp.row)=ret (md a0 a1 a2):=by
 obtain ⟨H0,H1,H2⟩:=hg
 unfold F md
 try simp only [SS]
 refine ct (Z51.aj H0) ?_
 refine av ret (fun c1=>?_) (fun _=>rfl)
 refine ct (Z62.aj ⟨H0,H1,H2⟩) ?_
 all_goals exact fz
def af:cz 440 aW:=W3 18 F mix aF bt (.cons Z51.af (.cons Z62.af .nil)) Tryz.func440
end Z63
namespace Z64
def F (x0:aT):aI:=(call (Z53.R x0.aq) fun v1=>(cond v1 (cond (x0.aq.cN==0) (cond (x0.aq.bI==1) (cond (!x0.aq.bG) (call (Z57.R (x0.aq.bP,x0.aq.dH)) fun v2=>(cond (x0.aq.bC==v2) (call (Z58.R x0.aq) fun v3=>(call (Z63.R (x0.aq.bP,v3,x0.cu)) fun v4=>ret (v4:Bool))) bz)) bz) bz) bz) bz))
def md (a0:aa):Bool:=(cond (Z53.md a0.aq) (cond (a0.aq.cN==0) (cond (a0.aq.bI==1) (cond (!a0.aq.bG) (cond (a0.aq.bC==(Z57.md a0.aq.bP a0.aq.dH)) ((Z63.md a0.aq.bP (Z58.md a0.aq) a0.cu):Bool) (false:Bool)) (false:Bool)) (false:Bool)) (false:Bool)) (false:Bool))
def gd (a0:aa):Prop:=(aa.Sm (2^21) a0)
def R:=RR gd md
def aj {a0}(h:gd a0):R (aa.r a0)=some (md a0):=aP (a:=a0) h
def aW:=CN [.agg kI] oB RT.dec R
def bt (a0)(hg:gd a0):F (aa.r a0)=ret (md a0):=by
 unfold gd at hg
 have H0:=hg
 unfold F md
 try simp only [SS]
 refine ct (Z53.aj H0.1) ?_
 refine av ret (fun c1=>?_) (fun _=>rfl)
 try have tc1:=Z53.tr (by simpa using c1)
 refine av ret (fun c2=>?_) (fun _=>rfl)
 have dc2:=c2
 try simp only [DC] at dc2
 refine av ret (fun c3=>?_) (fun _=>rfl)
 have dc3:=c3
 try simp only [DC] at dc3
 refine av ret (fun c4=>?_) (fun _=>rfl)
 have dc4:=c4
 try simp only [DC] at dc4
 refine ct (Z57.aj H0.1.1) ?_
 refine av ret (fun c5=>?_) (fun _=>rfl)
 have dc5:=c5
 try simp only [DC] at dc5
 refine ct (Z58.aj H0.1) ?_
 try simp only [SS]
 refine ct (Z63.aj ⟨H0.1.1,⟨(have:=Z58.len a0.aq;have:=(H0.1.1).1;have:=(H0.1.2.1).1;have:=(H0.1.2.2).1;om),fun _ _=>trivial⟩,H0.2⟩) ?_
 all_goals exact fz
def af:cz 353 aW:=W1 42 F mix aF bt (.cons Z53.af (.cons Z57.af (.cons Z58.af (.cons Z63.af .nil)))) Tryz.func353
end Z64
namespace Z65
def F (x0:cg):aI:=(call (Z58.R x0) fun v1=>(cq (ff (((1:Int)+(v1.length:Int))*8)) (call (Z56.R ([[L.int 233]]++v1)) fun v2=>ret (v2:Int))))
def md (a0:aG):Int:=((Z56.md ([233]++(Z58.md a0))):Int)
def gd (a0:aG):Prop:=(aG.Sm (2^21) a0)
def R:=RR gd md
def aj {a0}(h:gd a0):R (aG.r a0)=some (md a0):=aP (a:=a0) h
def aW:=CN [.agg gi] oI RT.dec R
def bt (a0)(hg:gd a0):F (aG.r a0)=ret (md a0):=by
 unfold gd at hg
 have H0:=hg
 unfold F md
 try simp only [SS]
 refine ct (Z58.aj H0) ?_
 try simp only [SS]
 refine ak (have:=Z58.len a0;have:=(H0.1).1;have:=(H0.2.1).1;have:=(H0.2.2).1;lm) ?_
 refine bg (Z56.md ([233]++(Z58.md a0))) (rq (Z56.aj (a0:=([233]++(Z58.md a0))) ⟨(have:=Z58.len a0;have:=(H0.1).1;have:=(H0.2.1).1;have:=(H0.2.2).1;om),fun _ _=>trivial⟩)) ?_
 all_goals exact fz
def af:cz 519 aW:=W1 8 F mix aF bt (.cons Z58.af (.cons Z56.af .nil)) Tryz.func519
end Z65
namespace Z66
def F (x0 x1:cg):aI:=(cond x0.bG (ret (4:Int)) (cond x1.bG (ret (6:Int)) (ret (1:Int))))
def md (a0 a1:aG):Int:=(cond a0.bG (4:Int) (cond a1.bG (6:Int) (1:Int)))
def gd (a0 a1:aG):Prop:=True
def R:=RR (p2 gd) (u2 md)
def aj {a0 a1}(h:gd a0 a1):R ((aG.r a0),(aG.r a1))=some (md a0 a1):=aP (a:=(a0,a1)) h
def aW:=CN [.agg gi,.agg gi] oI RT.dec R
def bt (a0)(a1)(hg:gd a0 a1):F (aG.r a0) (aG.r a1)=ret (md a0 a1):=by
 unfold F md
 try simp only [SS]
 refine av ret (fun _=>rfl) (fun c1=>?_)
 refine av ret (fun _=>rfl) (fun _=>rfl)
def af:cz 520 aW:=W2 11 F mix aF bt .nil Tryz.func520
end Z66
namespace Z67
inductive Pt where
 | p0 (a b:aE) (c:Int)
def pid:Pt->Nat
 | .p0 ..=>4
def ck:Pt->List V
 | .p0 a b c=>[.sl none 3 a,.sl none 3 b,.int .i64 c]
def cj:Pt->List aY
 | .p0 a b c=>[]
def step (J:Pt->aI):Pt->aI
 | .p0 a b c=>(cond (decide (c<(a.length:Int))) (m2 c (a.length:Int) (m2 c (b.length:Int) (cond ((jx a (toNat c)) != (jx b (toNat c))) bz (J (.p0 a b (i64.wrap (c+1))))))) (ret (true:Bool)))
def start (J:Pt->aI)(x0 x1:aE):aI:=(cond ((x0.length:Int) != (x1.length:Int)) bz (J (.p0 x0 x1 0)))
def live:Nat->Live:=fun i=>match i with | 4=>[(0,none),(1,none),(5,none)] | _=>[]
def md (a0 a1:List Int):Bool:=(bif ((a0.length:Int) != (a1.length:Int)) then (false:Bool) else (eD (S:=Unit) (β:=Bool) (fun (i2:Nat) (s4:Unit)=>(cond ((a0.getD i2 0) != (a1.getD i2 0)) (.inr (false:Bool)) (.inl ()))) (fun (s4:Unit)=>(true:Bool)) a0.length 0 ()))
def gd (a0 a1:List Int):Prop:=(bM (2^38) (fun y:Int=>True) a0)/\(bM (2^38) (fun y:Int=>True) a1)
def R:=RR (p2 gd) (u2 md)
def aj {a0 a1}(h:gd a0 a1):R ((a0.map bk),(a1.map bk))=some (md a0 a1):=aP (a:=(a0,a1)) h
def aW:=CN [pL 3,pL 3] oB RT.dec R
def bt (a0)(a1)(hg:gd a0 a1):∃n,start (iter step n) (a0.map bk) (a1.map bk)=ret (md a0 a1):=by
 obtain ⟨H0,H1⟩:=hg
 unfold start md
 try simp only [SS]
 refine hU ret (fun _=>⟨0,rfl⟩) (fun c1=>?_)
 have dc1:=c1
 try simp only [DC] at dc1
 have Bh3:a0.length<=maxLen:=(by
   have:=(H0).1
   try simp only [maxLen] at *
   omega)
 refine dP (p:=Pt.p0 (a0.map bk) (a1.map bk) 0) fz ?_
 refine cm (pt:=fun (i2:Nat) (s4:Unit)=>Pt.p0 (a0.map bk) (a1.map bk) (i2:Int)) (s:=(():Unit)) (out:=ret) (fun _ _=>True) (fun J i2 s4 h3 hih3=>?_) (fun s4 hih3=>?_) trivial
 ·simp only [step,SS]
  have bb_:=Bh3
  simp only [maxLen] at bb_
  have:=(H0).1
  refine bB.yes (by apply decide_eq_true;omega) ?_
  refine bB.yes aJ ?_
  refine bB.yes (aO h3) ?_
  refine bB.yes aJ ?_
  refine bB.yes (have:=(H1).1;dt) ?_
  refine bB.bif (fun _=>bB.inr rfl) (fun c5=>?_)
  refine bB.inl trivial ?_
  rw [aH h3 Bh3]
  all_goals exact fz
 ·simp only [step,SS]
  have:=(H0).1
  refine dF (by apply decide_eq_false;omega) ?_
  refine ⟨0,?_⟩
  all_goals exact fz
def af:cz 452 aW:=L2 26 pid ck cj live step start mix aF bt .nil Tryz.func452
def md_eq (a0 a1:List Int):md a0 a1=eg a0 a1:=by
 unfold md
 refine kA (0) (fun i s h h2=>?_) (fun s=>rfl)
 simp only [bne,fC,bool_beq,eV]
 cases eg _ _<;>rfl
end Z67
namespace Z68
def F (x0 x1:bE):aI:=(cond (x0.cF==x1.cF) (call (Z67.R (x0.aX,x1.aX)) fun v1=>ret (v1:Bool)) bz)
def md (a0 a1:aM):Bool:=(cond (a0.cF==a1.cF) ((Z67.md a0.aX a1.aX):Bool) (false:Bool))
def gd (a0 a1:aM):Prop:=(aM.Sm (2^21) a0)/\(aM.Sm (2^21) a1)
def R:=RR (p2 gd) (u2 md)
def aj {a0 a1}(h:gd a0 a1):R ((aM.r a0),(aM.r a1))=some (md a0 a1):=aP (a:=(a0,a1)) h
def aW:=CN [.agg qa,.agg qa] oB RT.dec R
def bt (a0)(a1)(hg:gd a0 a1):F (aM.r a0) (aM.r a1)=ret (md a0 a1):=by
 obtain ⟨H0,H1⟩:=hg
 unfold F md
 try simp only [SS]
 refine av ret (fun c1=>?_) (fun _=>rfl)
 refine ct (Z67.aj ⟨(H0.mono (by decide) (fun x hx=>trivial)),(H1.mono (by decide) (fun x hx=>trivial))⟩) ?_
 all_goals exact fz
def af:cz 569 aW:=W2 17 F mix aF bt (.cons Z67.af .nil) Tryz.func569
def md_eq (a0 a1:aM):md a0 a1=eg a0 a1:=by
 unfold md
 cases a0;cases a1
 rw [Bool.eq_iff_iff]
 simp [dy,eV,aM.mk.injEq,Z67.md_eq]
 try (constructor<;>(intro h;simp_all))
end Z68
namespace Z69
def F (x0 x1:cg):aI:=(cond (x0.cy==x1.cy) (ret ((x0.dm==x1.dm):Bool)) bz)
def md (a0 a1:aG):Bool:=(cond (a0.cy==a1.cy) ((a0.dm==a1.dm):Bool) (false:Bool))
def gd (a0 a1:aG):Prop:=True
def R:=RR (p2 gd) (u2 md)
def aj {a0 a1}(h:gd a0 a1):R ((aG.r a0),(aG.r a1))=some (md a0 a1):=aP (a:=(a0,a1)) h
def aW:=CN [.agg gi,.agg gi] oB RT.dec R
def bt (a0)(a1)(hg:gd a0 a1):F (aG.r a0) (aG.r a1)=ret (md a0 a1):=by
 unfold F md
 try simp only [SS]
 refine av ret (fun c1=>?_) (fun _=>rfl)
 all_goals exact fz
def af:cz 570 aW:=W2 17 F mix aF bt .nil Tryz.func570
end Z69
namespace Z70
def F (x0 x1:cg):aI:=(cond x0.bG (ret (4:Int)) (call (Z52.R x0.bD) fun v1=>(cond v1 (ret (5:Int)) (cond (decide (x1.cK<(i64.wrap (x0.cC+x0.dw)))) (ret (5:Int)) (cond x1.bG (ret (6:Int)) (call (Z68.R (x1.bP,x0.bD)) fun v2=>(cond (!v2) (ret (6:Int)) (call (Z69.R (x1,x0)) fun v3=>(cond (!v3) (ret (6:Int)) (ret (1:Int)))))))))))
def md (a0 a1:aG):Int:=(cond a0.bG (4:Int) (cond (Z52.md a0.bD) (5:Int) (cond (decide (a1.cK<(i64.wrap (a0.cC+a0.dw)))) (5:Int) (cond a1.bG (6:Int) (cond (!(Z68.md a1.bP a0.bD)) (6:Int) (cond (!(Z69.md a1 a0)) (6:Int) (1:Int)))))))
def gd (a0 a1:aG):Prop:=(aG.Sm (2^21) a0)/\(aG.Sm (2^21) a1)
def R:=RR (p2 gd) (u2 md)
def aj {a0 a1}(h:gd a0 a1):R ((aG.r a0),(aG.r a1))=some (md a0 a1):=aP (a:=(a0,a1)) h
def aW:=CN [.agg gi,.agg gi] oI RT.dec R
def bt (a0)(a1)(hg:gd a0 a1):F (aG.r a0) (aG.r a1)=ret (md a0 a1):=by
 obtain ⟨H0,H1⟩:=hg
 unfold F md
 try simp only [SS]
 refine av ret (fun _=>rfl) (fun c1=>?_)
 refine ct (Z52.aj trivial) ?_
 refine av ret (fun _=>rfl) (fun c2=>?_)
 refine av ret (fun _=>rfl) (fun c3=>?_)
 refine av ret (fun _=>rfl) (fun c4=>?_)
 refine ct (Z68.aj ⟨H1.1,H0.2.1⟩) ?_
 refine av ret (fun _=>rfl) (fun c5=>?_)
 refine ct (Z69.aj trivial) ?_
 refine av ret (fun _=>rfl) (fun _=>rfl)
def af:cz 521 aW:=W2 39 F mix aF bt (.cons Z52.af (.cons Z68.af (.cons Z69.af .nil))) Tryz.func521
end Z70
namespace Z71
def F (x0 x1:cg):aI:=(call (Z52.R x0.bA) fun v1=>(cond v1 (ret (5:Int)) (cond (x1.bG==x0.bG) (ret (6:Int)) (call (Z69.R (x1,x0)) fun v2=>(cond (!v2) (ret (6:Int)) (call (Z68.R (x1.bA,x0.bA)) fun v3=>(cond (!v3) (ret (6:Int)) (call (Z68.R (x1.bD,x0.bD)) fun v4=>(cond (!v4) (ret (6:Int)) (cond (x1.dw != x0.dw) (ret (6:Int)) (cond x1.bG (call (Z68.R (x1.bP,x0.bP)) fun v5=>(cond (!v5) (ret (6:Int)) (ret (1:Int)))) (ret (1:Int)))))))))))))
def md (a0 a1:aG):Int:=(cond (Z52.md a0.bA) (5:Int) (cond (a1.bG==a0.bG) (6:Int) (cond (!(Z69.md a1 a0)) (6:Int) (cond (!(Z68.md a1.bA a0.bA)) (6:Int) (cond (!(Z68.md a1.bD a0.bD)) (6:Int) (cond (a1.dw != a0.dw) (6:Int) (cond a1.bG (cond (!(Z68.md a1.bP a0.bP)) (6:Int) (1:Int)) (1:Int))))))))
def gd (a0 a1:aG):Prop:=(aG.Sm (2^21) a0)/\(aG.Sm (2^21) a1)
def R:=RR (p2 gd) (u2 md)
def aj {a0 a1}(h:gd a0 a1):R ((aG.r a0),(aG.r a1))=some (md a0 a1):=aP (a:=(a0,a1)) h
def aW:=CN [.agg gi,.agg gi] oI RT.dec R
def bt (a0)(a1)(hg:gd a0 a1):F (aG.r a0) (aG.r a1)=ret (md a0 a1):=by
 obtain ⟨H0,H1⟩:=hg
 unfold F md
 try simp only [SS]
 refine ct (Z52.aj trivial) ?_
 refine av ret (fun _=>rfl) (fun c1=>?_)
 refine av ret (fun _=>rfl) (fun c2=>?_)
 refine ct (Z69.aj trivial) ?_
 refine av ret (fun _=>rfl) (fun c3=>?_)
 refine ct (Z68.aj ⟨H1.2.2,H0.2.2⟩) ?_
 refine av ret (fun _=>rfl) (fun c4=>?_)
 refine ct (Z68.aj ⟨H1.2.1,H0.2.1⟩) ?_
 refine av ret (fun _=>rfl) (fun c5=>?_)
 refine av ret (fun _=>rfl) (fun c6=>?_)
 refine av ret (fun c7=>?_) (fun _=>rfl)
 refine ct (Z68.aj ⟨H1.1,H0.1⟩) ?_
 refine av ret (fun _=>rfl) (fun _=>rfl)
def af:cz 522 aW:=W2 55 F mix aF bt (.cons Z52.af (.cons Z69.af (.cons Z68.af .nil))) Tryz.func522
end Z71
namespace Z72
def F (x0:cg)(x1:aT):aI:=(call (Z53.R x0) fun v1=>(cond (!v1) (ret (2:Int)) (call (Z53.R x1.aq) fun v2=>(cond (!v2) (ret (2:Int)) (cond (x1.aq.bC != x0.bC) (ret (3:Int)) (cond (x1.aq.cN != (i64.wrap (x0.cN+1))) (ret (3:Int)) (call (Z65.R x0) fun v3=>(cond (x1.aq.dH != v3) (ret (3:Int)) (cond (decide (x1.aq.cK<x0.cK)) (ret (3:Int)) (call (Z66.R (x0,x1.aq)) fun v4=>(cond (x1.aq.bI==2) (call (Z70.R (x0,x1.aq)) fun v5=>(cond (v5==1) (call (Z58.R x1.aq) fun v6=>(call (Z63.R (x0.bD,v6,x1.cu)) fun v7=>(cond (!v7) (ret (7:Int)) (ret (v5:Int))))) (ret (v5:Int)))) (cond (x1.aq.bI==3) (call (Z71.R (x0,x1.aq)) fun v8=>(cond (v8==1) (call (Z58.R x1.aq) fun v9=>(call (Z63.R (x0.bA,v9,x1.cu)) fun v10=>(cond (!v10) (ret (7:Int)) (ret (v8:Int))))) (ret (v8:Int)))) (cond (v4==1) (call (Z58.R x1.aq) fun v11=>(call (Z63.R (x0.bP,v11,x1.cu)) fun v12=>(cond (!v12) (ret (7:Int)) (ret (v4:Int))))) (ret (v4:Int)))))))))))))))
def md (a0:aG)(a1:aa):Int:=(cond (!(Z53.md a0)) (2:Int) (cond (!(Z53.md a1.aq)) (2:Int) (cond (a1.aq.bC != a0.bC) (3:Int) (cond (a1.aq.cN != (i64.wrap (a0.cN+1))) (3:Int) (cond (a1.aq.dH != (Z65.md a0)) (3:Int) (cond (decide (a1.aq.cK<a0.cK)) (3:Int) (cond (a1.aq.bI==2) (cond ((Z70.md a0 a1.aq)==1) (cond (!(Z63.md a0.bD (Z58.md a1.aq) a1.cu)) (7:Int) ((Z70.md a0 a1.aq):Int)) ((Z70.md a0 a1.aq):Int)) (cond (a1.aq.bI==3) (cond ((Z71.md a0 a1.aq)==1) (cond (!(Z63.md a0.bA (Z58.md a1.aq) a1.cu)) (7:Int) ((Z71.md a0 a1.aq):Int)) ((Z71.md a0 a1.aq):Int)) (cond ((Z66.md a0 a1.aq)==1) (cond (!(Z63.md a0.bP (Z58.md a1.aq) a1.cu)) (7:Int) ((Z66.md a0 a1.aq):Int)) ((Z66.md a0 a1.aq):Int))))))))))
def gd (a0:aG)(a1:aa):Prop:=(aG.Sm (2^21) a0)/\(aa.Sm (2^21) a1)
def R:=RR (p2 gd) (u2 md)
def aj {a0 a1}(h:gd a0 a1):R ((aG.r a0),(aa.r a1))=some (md a0 a1):=aP (a:=(a0,a1)) h
def aW:=CN [.agg gi,.agg kI] oI RT.dec R
def bt (a0)(a1)(hg:gd a0 a1):F (aG.r a0) (aa.r a1)=ret (md a0 a1):=by
 obtain ⟨H0,H1⟩:=hg
 unfold F md
 try simp only [SS]
 refine ct (Z53.aj H0) ?_
 refine av ret (fun _=>rfl) (fun c1=>?_)
 have dc1:=c1
 try simp only [DC] at dc1
 try have tc1:=Z53.tr (by simpa using c1)
 refine ct (Z53.aj H1.1) ?_
 refine av ret (fun _=>rfl) (fun c2=>?_)
 have dc2:=c2
 try simp only [DC] at dc2
 try have tc2:=Z53.tr (by simpa using c2)
 refine av ret (fun _=>rfl) (fun c3=>?_)
 have dc3:=c3
 try simp only [DC] at dc3
 refine av ret (fun _=>rfl) (fun c4=>?_)
 have dc4:=c4
 try simp only [DC] at dc4
 refine ct (Z65.aj H0) ?_
 refine av ret (fun _=>rfl) (fun c5=>?_)
 have dc5:=c5
 try simp only [DC] at dc5
 refine av ret (fun _=>rfl) (fun c6=>?_)
 have dc6:=c6
 try simp only [DC] at dc6
 refine ct (Z66.aj trivial) ?_
 refine av ret (fun c7=>?_) (fun c7=>?_)
 ·have dc7:=c7
  try simp only [DC] at dc7
  refine ct (Z70.aj ⟨H0,H1.1⟩) ?_
  refine av ret (fun c8=>?_) (fun c8=>?_)
  ·have dc8:=c8
   try simp only [DC] at dc8
   refine ct (Z58.aj H1.1) ?_
   try simp only [SS]
   refine ct (Z63.aj ⟨H0.2.1,⟨(have:=Z58.len a1.aq;have:=(H1.1.1).1;have:=(H1.1.2.1).1;have:=(H1.1.2.2).1;om),fun _ _=>trivial⟩,H1.2⟩) ?_
   refine av ret (fun _=>rfl) (fun c9=>?_)
   all_goals exact fz
  ·all_goals exact fz
 ·have dc7:=c7
  try simp only [DC] at dc7
  refine av ret (fun c10=>?_) (fun c10=>?_)
  ·have dc10:=c10
   try simp only [DC] at dc10
   refine ct (Z71.aj ⟨H0,H1.1⟩) ?_
   refine av ret (fun c11=>?_) (fun c11=>?_)
   ·have dc11:=c11
    try simp only [DC] at dc11
    refine ct (Z58.aj H1.1) ?_
    try simp only [SS]
    refine ct (Z63.aj ⟨H0.2.2,⟨(have:=Z58.len a1.aq;have:=(H1.1.1).1;have:=(H1.1.2.1).1;have:=(H1.1.2.2).1;om),fun _ _=>trivial⟩,H1.2⟩) ?_
    refine av ret (fun _=>rfl) (fun c12=>?_)
    all_goals exact fz
   ·all_goals exact fz
  ·have dc10:=c10
   try simp only [DC] at dc10
   refine av ret (fun c13=>?_) (fun c13=>?_)
   ·have dc13:=c13
    try simp only [DC] at dc13
    refine ct (Z58.aj H1.1) ?_
    try simp only [SS]
    refine ct (Z63.aj ⟨H0.1,⟨(have:=Z58.len a1.aq;have:=(H1.1.1).1;have:=(H1.1.2.1).1;have:=(H1.1.2.2).1;om),fun _ _=>trivial⟩,H1.2⟩) ?_
    refine av ret (fun _=>rfl) (fun c14=>?_)
    all_goals exact fz
   ·all_goals exact fz
def af:cz 442 aW:=W2 78 F mix aF bt (.cons Z53.af (.cons Z65.af (.cons Z66.af (.cons Z70.af (.cons Z58.af (.cons Z63.af (.cons Z71.af .nil))))))) Tryz.func442
end Z72
namespace Z73
def F (x0:cg)(x1:aT):aI:=(call (Z72.R (x0,x1)) fun v1=>ret ((v1==1):Bool))
def md (a0:aG)(a1:aa):Bool:=(((Z72.md a0 a1)==1):Bool)
def gd (a0:aG)(a1:aa):Prop:=(aG.Sm (2^21) a0)/\(aa.Sm (2^21) a1)
def R:=RR (p2 gd) (u2 md)
def aj {a0 a1}(h:gd a0 a1):R ((aG.r a0),(aa.r a1))=some (md a0 a1):=aP (a:=(a0,a1)) h
def aW:=CN [.agg gi,.agg kI] oB RT.dec R
def bt (a0)(a1)(hg:gd a0 a1):F (aG.r a0) (aa.r a1)=ret (md a0 a1):=by
 obtain ⟨H0,H1⟩:=hg
 unfold F md
 try simp only [SS]
 refine ct (Z72.aj ⟨H0,H1⟩) ?_
 all_goals exact fz
def af:cz 354 aW:=W2 9 F mix aF bt (.cons Z72.af .nil) Tryz.func354
end Z73
namespace Z74
inductive Pt where
 | p0 (a:aE) (b:Int)
def pid:Pt->Nat
 | .p0 ..=>2
def ck:Pt->List V
 | .p0 a b=>[.sl none 123 a,.int .i64 b]
def cj:Pt->List aY
 | .p0 a b=>[]
def step (J:Pt->aI):Pt->aI
 | .p0 a b=>(cond (decide (b<(a.length:Int))) (cond (b==0) (cq (decide ((0:Int)<(a.length:Int))) (call (Z64.R (aT.at a 0)) fun v1=>(cond (!v1) (ret (b:Int)) (cond (decide (b>0)) (cq (decide ((0:Int)<=(i64.wrap (b - 1)))) (cq (decide ((i64.wrap (b - 1))<(a.length:Int))) (m2 b (a.length:Int) (call (Z73.R ((aT.at a (toNat (i64.wrap (b - 1)))).aq,(aT.at a (toNat b)))) fun v2=>(cond (!v2) (ret (b:Int)) (J (.p0 a (i64.wrap (b+1))))))))) (J (.p0 a (i64.wrap (b+1)))))))) (cond (decide (b>0)) (cq (decide ((0:Int)<=(i64.wrap (b - 1)))) (cq (decide ((i64.wrap (b - 1))<(a.length:Int))) (m2 b (a.length:Int) (call (Z73.R ((aT.at a (toNat (i64.wrap (b - 1)))).aq,(aT.at a (toNat b)))) fun v3=>(cond (!v3) (ret (b:Int)) (J (.p0 a (i64.wrap (b+1))))))))) (J (.p0 a (i64.wrap (b+1)))))) (ret ((-1):Int)))
def start (J:Pt->aI)(x0:aE):aI:=J (.p0 x0 0)
def live:Nat->Live:=fun i=>match i with | 2=>[(0,none),(3,none)] | _=>[]
def md (a0:List aa):Int:=(dW (S:=Unit) (β:=Int) (fun (i1:Nat) (y1:aa) (s3:Unit)=>(cond ((i1:Int)==0) (cond (!(Z64.md (a0.getD 0 aa.zero))) (.inr ((i1:Int):Int)) (cond (decide ((i1:Int)>0)) (cond (!(Z73.md ((a0.getD (toNat (i64.wrap ((i1:Int) - 1))) aa.zero).aq) y1)) (.inr ((i1:Int):Int)) (.inl ())) (.inl ()))) (cond (decide ((i1:Int)>0)) (cond (!(Z73.md ((a0.getD (toNat (i64.wrap ((i1:Int) - 1))) aa.zero).aq) y1)) (.inr ((i1:Int):Int)) (.inl ())) (.inl ())))) (fun (s3:Unit)=>((-1):Int)) 0 a0 ())
def gd (a0:List aa):Prop:=(bM (2^21) (fun y:aa=>aa.Sm (2^21) y) a0)
def R:=RR gd md
def aj {a0}(h:gd a0):R (a0.map aa.row)=some (md a0):=aP (a:=a0) h
def aW:=CN [pL 123] oI RT.dec R
def bt (a0)(hg:gd a0):∃n,start (iter step n) (a0.map aa.row)=ret (md a0):=by
 unfold gd at hg
 have H0:=hg
 unfold start md
 try simp only [SS]
 have Bh2:a0.length<=maxLen:=(by
   have:=(H0).1
   try simp only [maxLen] at *
   omega)
 refine ex_eq (out:=ret) (cX (z:=aa.zero)) ?_
 refine dP (p:=Pt.p0 (a0.map aa.row) 0) fz ?_
 refine cm (pt:=fun (i1:Nat) (s3:Unit)=>Pt.p0 (a0.map aa.row) (i1:Int)) (s:=(():Unit)) (out:=ret) (fun _ _=>True) (fun J i1 s3 h2 hih2=>?_) (fun s3 hih2=>?_) trivial
 ·simp only [step,SS]
  have bb_:=Bh2
  simp only [maxLen] at bb_
  have:=(H0).1
  refine bB.yes (by apply decide_eq_true;omega) ?_
  refine bB.bif (fun c4=>?_) (fun c4=>?_)
  ·have dc4:=c4
   try simp only [DC] at dc4
   refine bB.yes (have:=(H0).1;dt) ?_
   refine cr (Z64.aj (bM.getD (z:=aa.zero) H0 (by first | assumption | omega | (simp (disch:=omega) only [wi];omega) | (simp;omega)))) ?_
   refine bB.bif (fun c5=>?_) (fun c5=>?_)
   ·refine bB.inr ?_
    all_goals exact fz
   ·have dc5:=c5
    try simp only [DC] at dc5
    refine bB.bif (fun c6=>?_) (fun c6=>?_)
    ·have dc6:=c6
     try simp only [DC] at dc6
     refine bB.yes dt ?_
     refine bB.yes (have:=(H0).1;dt) ?_
     refine bB.yes aJ ?_
     refine bB.yes (aO h2) ?_
     refine cr (Z73.aj ⟨(bM.getD (z:=aa.zero) H0 (by first | assumption | omega | (simp (disch:=omega) only [wi];omega) | (simp;omega))).1,(bM.getD (z:=aa.zero) H0 h2)⟩) ?_
     refine bB.bif (fun c7=>?_) (fun c7=>?_)
     ·refine bB.inr ?_
      all_goals exact fz
     ·refine bB.inl trivial ?_
      rw [aH h2 Bh2]
      all_goals exact fz
    ·refine bB.inl trivial ?_
     rw [aH h2 Bh2]
     all_goals exact fz
  ·have dc4:=c4
   try simp only [DC] at dc4
   refine bB.bif (fun c8=>?_) (fun c8=>?_)
   ·have dc8:=c8
    try simp only [DC] at dc8
    refine bB.yes dt ?_
    refine bB.yes (have:=(H0).1;dt) ?_
    refine bB.yes aJ ?_
    refine bB.yes (aO h2) ?_
    refine cr (Z73.aj ⟨(bM.getD (z:=aa.zero) H0 (by first | assumption | omega | (simp (disch:=omega) only [wi];omega) | (simp;omega))).1,(bM.getD (z:=aa.zero) H0 h2)⟩) ?_
    refine bB.bif (fun c9=>?_) (fun c9=>?_)
    ·refine bB.inr ?_
     all_goals exact fz
    ·refine bB.inl trivial ?_
     rw [aH h2 Bh2]
     all_goals exact fz
   ·refine bB.inl trivial ?_
    rw [aH h2 Bh2]
    all_goals exact fz
 ·simp only [step,SS]
  have:=(H0).1
  refine dF (by apply decide_eq_false;omega) ?_
  refine ⟨0,?_⟩
  all_goals exact fz
def af:cz 225 aW:=L1 38 pid ck cj live step start mix aF bt (.cons Z64.af (.cons Z73.af .nil)) Tryz.func225
end Z74
namespace Z75
def F (x0:aE):aI:=(call (Z47.R ((x0.length:Int),1,12)) fun v1=>(cond v1 (call (Z74.R x0) fun v2=>ret ((decide (v2<0)):Bool)) bz))
def md (a0:List aa):Bool:=(cond (Z47.md (a0.length:Int) 1 12) ((decide ((Z74.md a0)<0)):Bool) (false:Bool))
def gd (a0:List aa):Prop:=(bM (2^21) (fun y:aa=>aa.Sm (2^21) y) a0)
def R:=RR gd md
def aj {a0}(h:gd a0):R (a0.map aa.row)=some (md a0):=aP (a:=a0) h
def aW:=CN [pL 123] oB RT.dec R
def bt (a0)(hg:gd a0):F (a0.map aa.row)=ret (md a0):=by
 unfold gd at hg
 have H0:=hg
 unfold F md
 try simp only [SS]
 refine ct (Z47.aj trivial) ?_
 refine av ret (fun c1=>?_) (fun _=>rfl)
 refine ct (Z74.aj H0) ?_
 all_goals exact fz
def af:cz 70 aW:=W1 11 F mix aF bt (.cons Z47.af (.cons Z74.af .nil)) Tryz.func70
def tr {a0:List aa}(h:md a0=true):1<=a0.length/\a0.length<=12:=by simp [md,Z47.md] at h;omega
def qv {l:List aa}(h:md l=true):∀i,i<l.length->Z53.md (l.getD i aa.zero).aq=true:=by
 intro i hi
 have hl:=tr h
 have h1:Z74.md l<0:=by
  unfold md at h
  cases hc:Z47.md (l.length:Int) 1 12<;>rw [hc] at h
  ·cases h
  ·simpa using h
 unfold Z74.md at h1
 have h2:=rM (z:=aa.zero) (by
  intro i x s b h
  revert h
  simp only [Bool.cond_eq_ite]
  repeat' split
  all_goals (intro h;first | (cases h;rfl) | cases h)) h1 i hi
 by_cases h0:i=0
 ·subst h0
  cases hf:Z64.md (l.getD 0 aa.zero)
  ·rw [hf] at h2;cases h2
  ·unfold Z64.md at hf
   cases hh:Z53.md (l.getD 0 aa.zero).aq
   ·rw [hh] at hf;cases hf
   ·rfl
 ·have e:((i:Int)==0)=false:=beq_eq_false_iff_ne.2 (by omega)
  have e2:decide ((i:Int)>0)=true:=by simpa using by omega
  simp only [e,e2,bq,bh] at h2
  cases hf:Z73.md ((l.getD (toNat (i64.wrap ((i:Int) - 1))) aa.zero).aq) (l.getD i aa.zero)
  ·rw [hf] at h2;cases h2
  ·unfold Z73.md Z72.md at hf
   cases hh:Z53.md (l.getD i aa.zero).aq
   ·rw [hh] at hf
    cases hp:Z53.md ((l.getD (toNat (i64.wrap ((i:Int) - 1))) aa.zero).aq)<;>rw [hp] at hf<;>cases hf
   ·rfl
def Bn {l:List aa}(h:md l=true):∀i,i<l.length->(l.getD i aa.zero).aq.bC=(l.getD 0 aa.zero).aq.bC:=by
 have hl:=tr h
 have h1:Z74.md l<0:=by
  unfold md at h
  cases hc:Z47.md (l.length:Int) 1 12<;>rw [hc] at h
  ·cases h
  ·simpa using h
 unfold Z74.md at h1
 have h2:=rM (z:=aa.zero) (by
  intro i x s b h
  revert h
  simp only [Bool.cond_eq_ite]
  repeat' split
  all_goals (intro h;first | (cases h;rfl) | cases h)) h1
 intro i
 induction i with
 | zero=>intro _;rfl
 | succ i ih=>
  intro hi
  have h3:=h2 (i+1) hi
  have e:(((i+1:Nat):Int)==0)=false:=beq_eq_false_iff_ne.2 (by omega)
  have e2:decide (((i+1:Nat):Int)>0)=true:=by simpa using by omega
  have ei:toNat (i64.wrap (((i+1:Nat):Int) - 1))=i:=by simp (disch:=omega) only [wi];omega
  simp only [e,e2,bq,bh] at h3
  rw [ei] at h3
  cases hf:Z73.md ((l.getD i aa.zero).aq) (l.getD (i+1) aa.zero)
  ·rw [hf] at h3;cases h3
  ·unfold Z73.md Z72.md at hf
   cases hz:((l.getD (i+1) aa.zero).aq.bC != (l.getD i aa.zero).aq.bC)
   ·rw [<-ih (by omega)];exact (by simpa using hz)
   ·rw [hz] at hf
    cases hp:Z53.md (l.getD i aa.zero).aq<;>rw [hp] at hf
    ·cases hf
    ·cases hh:Z53.md (l.getD (i+1) aa.zero).aq<;>rw [hh] at hf<;>cases hf
end Z75
namespace Z76
def F (x0:aE):aI:=(call (Z75.R x0) fun v1=>(cond (!v1) (ret (((⟨0,0,0,0,0,0,0,0,(⟨[],0⟩:bE),(⟨[],0⟩:bE),0,(⟨[],0⟩:bE),false⟩:cg),false):cg×Bool)) (cq (decide ((0:Int)<=(i64.wrap ((x0.length:Int) - 1)))) (cq (decide ((i64.wrap ((x0.length:Int) - 1))<(x0.length:Int))) (call (Z42.R ((aT.at x0 (toNat (i64.wrap ((x0.length:Int) - 1)))).aq)) fun v2=>ret ((v2,true):cg×Bool))))))
def md (a0:List aa):aG×Bool:=(cond (!(Z75.md a0)) ((⟨0,0,0,0,0,0,0,0,(⟨[],0⟩:aM),(⟨[],0⟩:aM),0,(⟨[],0⟩:aM),false⟩:aG),false) (((a0.getD (toNat (i64.wrap ((a0.length:Int) - 1))) aa.zero).aq),true))
def gd (a0:List aa):Prop:=(bM (2^21) (fun y:aa=>aa.Sm (2^21) y) a0)
def R:=RR gd md
def aj {a0}(h:gd a0):R (a0.map aa.row)=some ((aG.r (md a0).1),(md a0).2):=aP (a:=a0) h
def aW:=CN [pL 123] (.iQ [(true,f102),(false,[fB])]) RT.dec R
def bt (a0)(hg:gd a0):F (a0.map aa.row)=ret ((aG.r (md a0).1),(md a0).2):=by
 unfold gd at hg
 have H0:=hg
 unfold F md
 try simp only [SS]
 refine ct (Z75.aj H0) ?_
 refine av (fun b:aG×Bool=>ret (((aG.r b.1),b.2):cg×Bool)) (fun c1=>?_) (fun c1=>?_)
 ·all_goals exact fz
 ·have dc1:=c1
  try simp only [DC] at dc1
  try have tc1:=Z75.tr (by simpa using c1)
  refine ak (have:=(H0).1;dt) ?_
  refine ak (have:=(H0).1;dt) ?_
  refine ct (Z42.aj (bM.getD (z:=aa.zero) H0 (by first | assumption | omega | (simp (disch:=omega) only [wi];omega) | (simp;omega))).1) ?_
  try simp only [SS]
  all_goals exact fz
def af:cz 71 aW:=W1 16 F mix aF bt (.cons Z75.af (.cons Z42.af .nil)) Tryz.func71
def head {l:List aa}(h:(md l).2=true):Z75.md l=true/\(md l).1=(l.getD (l.length - 1) aa.zero).aq/\Z53.md (md l).1=true:=by
 unfold md at h ⊢
 cases hc:Z75.md l
 ·rw [hc] at h;cases h
 ·have hl:=Z75.tr hc
  have hw:toNat (i64.wrap ((l.length:Int) - 1))=l.length - 1:=by
   rw [Go.IntWalk.i64_in _ (by omega)];omega
  simp only [Bool.not_true,bq,hw]
  exact ⟨trivial,trivial,Z75.qv hc _ (by omega)⟩
end Z76
namespace Z77
def F (x0:aV):aI:=(cond (x0.bI==1) (call (Z48.R x0.aZ) fun v1=>(cond v1 (call (Z47.R (x0.bX,0,999999)) fun v2=>(cond v2 (ret (((x0.bH.length:Int)==0):Bool)) bz)) bz)) (cond (x0.bI==2) (call (Z48.R x0.aZ) fun v3=>(cond v3 (call (Z47.R (x0.bX,0,2147483646)) fun v4=>(cond v4 (ret (((x0.bH.length:Int)==0):Bool)) bz)) bz)) (cond (x0.bI==3) (call (Z48.R x0.aZ) fun v5=>(cond v5 (call (Z47.R (x0.bX,0,2147483646)) fun v6=>(cond v6 (call (Z49.R x0.bH) fun v7=>ret (v7:Bool)) bz)) bz)) bz)))
def md (a0:ah):Bool:=(cond (a0.bI==1) (cond (Z48.md a0.aZ) (cond (Z47.md a0.bX 0 999999) (((a0.bH.length:Int)==0):Bool) (false:Bool)) (false:Bool)) (cond (a0.bI==2) (cond (Z48.md a0.aZ) (cond (Z47.md a0.bX 0 2147483646) (((a0.bH.length:Int)==0):Bool) (false:Bool)) (false:Bool)) (cond (a0.bI==3) (cond (Z48.md a0.aZ) (cond (Z47.md a0.bX 0 2147483646) ((Z49.md a0.bH):Bool) (false:Bool)) (false:Bool)) (false:Bool))))
def gd (a0:ah):Prop:=(ah.Sm (2^21) a0)
def R:=RR gd md
def aj {a0}(h:gd a0):R (ah.r a0)=some (md a0):=aP (a:=a0) h
def aW:=CN [.agg rE] oB RT.dec R
def bt (a0)(hg:gd a0):F (ah.r a0)=ret (md a0):=by
 unfold gd at hg
 have H0:=hg
 unfold F md
 try simp only [SS]
 refine av ret (fun c1=>?_) (fun c1=>?_)
 ·refine ct (Z48.aj (le_trans H0.1 (by decide))) ?_
  refine av ret (fun c2=>?_) (fun _=>rfl)
  refine ct (Z47.aj trivial) ?_
  refine av ret (fun c3=>?_) (fun _=>rfl)
  all_goals exact fz
 ·refine av ret (fun c4=>?_) (fun c4=>?_)
  ·refine ct (Z48.aj (le_trans H0.1 (by decide))) ?_
   refine av ret (fun c5=>?_) (fun _=>rfl)
   refine ct (Z47.aj trivial) ?_
   refine av ret (fun c6=>?_) (fun _=>rfl)
   all_goals exact fz
  ·refine av ret (fun c7=>?_) (fun _=>rfl)
   refine ct (Z48.aj (le_trans H0.1 (by decide))) ?_
   refine av ret (fun c8=>?_) (fun _=>rfl)
   refine ct (Z47.aj trivial) ?_
   refine av ret (fun c9=>?_) (fun _=>rfl)
   refine ct (Z49.aj (H0.2.mono (by decide) (fun x hx=>(le_trans hx (by decide))))) ?_
   all_goals exact fz
def af:cz 408 aW:=W1 52 F mix aF bt (.cons Z48.af (.cons Z47.af (.cons Z49.af .nil))) Tryz.func408
end Z77
namespace Z78
def F (x0 x1:aD):aI:=(cond (Op.bytesLess x0.toList x1.toList) (ret ((-1):Int)) (cond (!((Op.bytesLess x0.toList x1.toList)||(x0.toList==x1.toList))) (ret (1:Int)) (ret (0:Int))))
def md (a0 a1:aD):Int:=(cond (Op.bytesLess a0.toList a1.toList) ((-1):Int) (cond (!((Op.bytesLess a0.toList a1.toList)||(a0.toList==a1.toList))) (1:Int) (0:Int)))
def gd (a0 a1:aD):Prop:=True
def R:=RR (p2 gd) (u2 md)
def aj {a0 a1}(h:gd a0 a1):R (a0,a1)=some (md a0 a1):=aP (a:=(a0,a1)) h
def aW:=CN [pS,pS] oI RT.dec R
def bt (a0)(a1)(hg:gd a0 a1):F a0 a1=ret (md a0 a1):=by
 unfold F md
 try simp only [SS]
 refine av ret (fun _=>rfl) (fun c1=>?_)
 refine av ret (fun _=>rfl) (fun _=>rfl)
def af:cz 195 aW:=W2 13 F mix aF bt .nil Tryz.func195
def vals (a b:aD):md a b=-1∨md a b=0∨md a b=1:=by
 unfold md
 cases Op.bytesLess a.toList b.toList
 ·cases (!(false||(a.toList==b.toList)))<;>simp
 ·simp
def lt (a b:aD):decide (md a b<0)=(md a b == -1):=by
 rcases vals a b with h | h | h<;>rw [h]<;>rfl
def gt (a b:aD):decide (md a b>0)=(md a b==1):=by
 rcases vals a b with h | h | h<;>rw [h]<;>rfl
def bl:∀a b:List UInt8,(Op.bytesLess a b||a==b)=!(Op.bytesLess b a)
 | [],[]=>by simp [Op.bytesLess]
 | [],_::_=>by simp [Op.bytesLess]
 | _::_,[]=>by simp [Op.bytesLess]
 | a::xs,b::ys=>by
  have ih:=bl xs ys
  simp only [Op.bytesLess]
  by_cases h1:a<b
  ·have h2:¬b<a:=UInt8.not_lt.2 (UInt8.le_of_lt h1)
   have h3:¬b=a:=fun h=>by subst h;exact UInt8.lt_irrefl _ h1
   simp [h1,h2,h3]
  ·by_cases h2:a=b
   ·subst h2
    have hr:¬a<a:=UInt8.lt_irrefl a
    simp only [hr,decide_false,Bool.false_or,beq_self_eq_true,Bool.true_and,List.cons_beq_cons]
    exact ih
   ·have h3:b<a:=by
     rcases UInt8.lt_or_lt_of_ne h2 with h | h
     ·exact (h1 h).elim
     ·exact h
    simp [h1,h2,h3,List.cons_beq_cons]
def swap (a b:aD):decide (md a b<=0)=(md b a != -1):=by
 unfold md
 rw [bl a.toList b.toList,bl b.toList a.toList]
 have h:=bl a.toList b.toList
 cases h1:Op.bytesLess a.toList b.toList<;>cases h2:Op.bytesLess b.toList a.toList<;>rw [h1,h2] at h<;>simp at h ⊢
end Z78
namespace Z79
inductive Pt where
 | p0 (a:aE) (b:Int)
def pid:Pt->Nat
 | .p0 ..=>2
def ck:Pt->List V
 | .p0 a b=>[.sl none 61 a,.int .i64 b]
def cj:Pt->List aY
 | .p0 a b=>[]
def step (J:Pt->aI):Pt->aI
 | .p0 a b=>(cond (decide (b<(a.length:Int))) (m2 b (a.length:Int) (call (Z77.R (aV.at a (toNat b))) fun v1=>(cond (!v1) bz (cond (decide (b>0)) (cq (decide ((0:Int)<=(i64.wrap (b - 1)))) (cq (decide ((i64.wrap (b - 1))<(a.length:Int))) (m2 b (a.length:Int) (call (Z78.R ((aV.at a (toNat (i64.wrap (b - 1)))).aZ,(aV.at a (toNat b)).aZ)) fun v2=>(cond (v2 != (-1)) bz (J (.p0 a (i64.wrap (b+1))))))))) (J (.p0 a (i64.wrap (b+1)))))))) (ret ((decide ((a.length:Int)<=12)):Bool)))
def start (J:Pt->aI)(x0:aE):aI:=J (.p0 x0 0)
def live:Nat->Live:=fun i=>match i with | 2=>[(0,none),(3,none)] | _=>[]
def md (a0:List ah):Bool:=(dW (S:=Unit) (β:=Bool) (fun (i1:Nat) (y1:ah) (s3:Unit)=>(cond (!(Z77.md y1)) (.inr (false:Bool)) (cond (decide ((i1:Int)>0)) (cond ((Z78.md ((a0.getD (toNat (i64.wrap ((i1:Int) - 1))) ah.zero).aZ) (y1.aZ)) != (-1)) (.inr (false:Bool)) (.inl ())) (.inl ())))) (fun (s3:Unit)=>((decide ((a0.length:Int)<=12)):Bool)) 0 a0 ())
def gd (a0:List ah):Prop:=(bM (2^21) (fun y:ah=>ah.Sm (2^21) y) a0)
def R:=RR gd md
def aj {a0}(h:gd a0):R (a0.map ah.row)=some (md a0):=aP (a:=a0) h
def aW:=CN [pL 61] oB RT.dec R
def bt (a0)(hg:gd a0):∃n,start (iter step n) (a0.map ah.row)=ret (md a0):=by
 unfold gd at hg
 have H0:=hg
 unfold start md
 try simp only [SS]
 have Bh2:a0.length<=maxLen:=(by
   have:=(H0).1
   try simp only [maxLen] at *
   omega)
 refine ex_eq (out:=ret) (cX (z:=ah.zero)) ?_
 refine dP (p:=Pt.p0 (a0.map ah.row) 0) fz ?_
 refine cm (pt:=fun (i1:Nat) (s3:Unit)=>Pt.p0 (a0.map ah.row) (i1:Int)) (s:=(():Unit)) (out:=ret) (fun _ _=>True) (fun J i1 s3 h2 hih2=>?_) (fun s3 hih2=>?_) trivial
 ·simp only [step,SS]
  have bb_:=Bh2
  simp only [maxLen] at bb_
  have:=(H0).1
  refine bB.yes (by apply decide_eq_true;omega) ?_
  refine bB.yes aJ ?_
  refine bB.yes (aO h2) ?_
  refine cr (Z77.aj (bM.getD (z:=ah.zero) H0 h2)) ?_
  refine bB.bif (fun _=>bB.inr rfl) (fun c4=>?_)
  have dc4:=c4
  try simp only [DC] at dc4
  refine bB.bif (fun c5=>?_) (fun c5=>?_)
  ·have dc5:=c5
   try simp only [DC] at dc5
   refine bB.yes dt ?_
   refine bB.yes (have:=(H0).1;dt) ?_
   refine bB.yes aJ ?_
   refine bB.yes (aO h2) ?_
   refine cr (Z78.aj trivial) ?_
   refine bB.bif (fun _=>bB.inr rfl) (fun c6=>?_)
   refine bB.inl trivial ?_
   rw [aH h2 Bh2]
   all_goals exact fz
  ·refine bB.inl trivial ?_
   rw [aH h2 Bh2]
   all_goals exact fz
 ·simp only [step,SS]
  have:=(H0).1
  refine dF (by apply decide_eq_false;omega) ?_
  refine ⟨0,?_⟩
  all_goals exact fz
def af:cz 463 aW:=L1 38 pid ck cj live step start mix aF bt (.cons Z77.af (.cons Z78.af .nil)) Tryz.func463
end Z79
namespace Z80
inductive Pt where
 | p0 (a:aE) (b:Int) (c:aE)
def pid:Pt->Nat
 | .p0 ..=>3
def ck:Pt->List V
 | .p0 a b c=>[.sl none 5 a,.own 0,.int .i64 b]
def cj:Pt->List aY
 | .p0 a b c=>[.row 3 c]
def step (J:Pt->aI):Pt->aI
 | .p0 a b c=>(cond (decide (b<(a.length:Int))) (m2 b (a.length:Int) (cq (ff (((c.length:Int)+1)*8)) (J (.p0 a (i64.wrap (b+1)) (c++[[L.int (i64.wrap (jx a (toNat b)))]]))))) (ret (c:aE)))
def start (J:Pt->aI)(x0:aE):aI:=J (.p0 x0 0 [[L.int (x0.length:Int)]])
def live:Nat->Live:=fun i=>match i with | 3=>[(0,none),(3,none),(4,none)] | _=>[]
def md (a0:List Int):List Int:=([(a0.length:Int)]++a0.map (fun (y1:Int)=>(i64.wrap y1)))
def gd (a0:List Int):Prop:=(bM (2^38) (fun y:Int=>True) a0)
def R:=RR gd md
def aj {a0}(h:gd a0):R (a0.map bk)=some ((md a0).map bk):=aP (a:=a0) h
def aW:=CN [pL 5] (oL 3) RT.dec R
def bt (a0)(hg:gd a0):∃n,start (iter step n) (a0.map bk)=ret ((md a0).map bk):=by
 unfold gd at hg
 have H0:=hg
 unfold start md
 try simp only [SS]
 have Bh2:a0.length<=maxLen:=(by
   have:=(H0).1
   try simp only [maxLen] at *
   omega)
 refine ex_eq (out:=(fun b:List Int=>ret ((b.map bk):aE))) (mh (g:=fun (y1:Int)=>(i64.wrap y1)) (z:=0) (t:=fun (s3:List Int)=>s3) (s:=[(a0.length:Int)])) ?_
 refine dP (p:=Pt.p0 (a0.map bk) 0 ([(a0.length:Int)].map bk)) fz ?_
 refine cm (pt:=fun (i1:Nat) (s3:List Int)=>Pt.p0 (a0.map bk) (i1:Int) (s3.map bk)) (s:=([(a0.length:Int)]:List Int)) (out:=(fun b:List Int=>ret ((b.map bk):aE))) (fun (i1:Nat) (s3:List Int)=>s3.length<=[(a0.length:Int)].length+1*i1) (fun J i1 s3 h2 hih2=>?_) (fun s3 hih2=>?_) (by simp)
 ·simp only [step,SS]
  have gr_:=hih2
  try simp only [LN] at gr_
  have:=(H0).1
  have bb_:=Bh2
  simp only [maxLen] at bb_
  have:=(H0).1
  refine bB.yes (by apply decide_eq_true;omega) ?_
  refine bB.yes aJ ?_
  refine bB.yes (aO h2) ?_
  refine bB.yes lm ?_
  refine bB.inl (by
    have g_:=hih2
    try simp only [LN] at g_ ⊢
    first | omega | (simp;done) | (simp;omega)) ?_
  rw [aH h2 Bh2]
  all_goals exact fz
 ·simp only [step,SS]
  have gr_:=hih2
  try simp only [LN] at gr_
  have:=(H0).1
  have:=(H0).1
  refine dF (by apply decide_eq_false;omega) ?_
  refine ⟨0,?_⟩
  all_goals exact fz
def af:cz 593 aW:=L1 23 pid ck cj live step start mix aF bt .nil Tryz.func593
def len (a0:List Int):(md a0).length=1+a0.length:=by simp [md];omega
end Z80
namespace Z81
def F (x0:aD):aI:=(cq (decide ((x0.size:Int)<=140737488355328)) (call (Z80.R (iG x0)) fun v1=>ret (v1:aE)))
def md (a0:aD):List Int:=(Z80.md (jg a0))
def gd (a0:aD):Prop:=(a0.size<=(2^21))
def R:=RR gd md
def aj {a0}(h:gd a0):R a0=some ((md a0).map bk):=aP (a:=a0) h
def aW:=CN [pS] (oL 3) RT.dec R
def bt (a0)(hg:gd a0):F a0=ret ((md a0).map bk):=by
 unfold gd at hg
 have H0:=hg
 unfold F md
 try simp only [SS]
 refine ak (have:=H0;dt) ?_
 refine bg ((Z80.md (jg a0)).map bk) (rq (Z80.aj (a0:=(jg a0)) ⟨(have:=gV a0;have:=H0;om),fun _ _=>trivial⟩)) ?_
 try simp only [SS]
 all_goals exact fz
def af:cz 580 aW:=W1 6 F mix aF bt (.cons Z80.af .nil) Tryz.func580
def len (a0:aD):(md a0).length=1+a0.size:=by simp [md,Z80.len,gV]
end Z81
namespace Z82
inductive Pt where
 | p0 (a:Int) (b:aV) (c:aE)
def pid:Pt->Nat
 | .p0 ..=>3
def ck:Pt->List V
 | .p0 a b c=>[.dz 0 0,.own 1,.int .i64 a]
def cj:Pt->List aY
 | .p0 a b c=>[.box [.str b.aZ,.int .i64 b.bI,.int .i64 b.bX,.sl none 9 b.bH],.row 3 c]
def step (J:Pt->aI):Pt->aI
 | .p0 a b c=>(cond (decide (a<(b.bH.length:Int))) (m2 a (b.bH.length:Int) (call (Z81.R (qi b.bH (toNat a))) fun v1=>(cq (ff (((c.length:Int)+(v1.length:Int))*8)) (J (.p0 (i64.wrap (a+1)) b (c++v1)))))) (ret (c:aE)))
def start (J:Pt->aI)(x0:aV):aI:=(call (Z81.R x0.aZ) fun v1=>(cq (ff (((v1.length:Int)+3)*8)) (J (.p0 0 x0 (v1++[[L.int x0.bI],[L.int x0.bX],[L.int (x0.bH.length:Int)]])))))
def live:Nat->Live:=fun i=>match i with | 3=>[(1,none),(3,none),(4,none)] | _=>[]
def md (a0:ah):List Int:=(((Z81.md a0.aZ)++[a0.bI,a0.bX,(a0.bH.length:Int)])++a0.bH.flatMap (fun (y1:aD)=>(Z81.md y1)))
def gd (a0:ah):Prop:=(ah.Sm (2^21) a0)
def R:=RR gd md
def aj {a0}(h:gd a0):R (ah.r a0)=some ((md a0).map bk):=aP (a:=a0) h
def aW:=CN [.agg rE] (oL 3) RT.dec R
def bt (a0)(hg:gd a0):∃n,start (iter step n) (ah.r a0)=ret ((md a0).map bk):=by
 unfold gd at hg
 have H0:=hg
 unfold start md
 try simp only [SS]
 refine cx (Z81.aj H0.1) ?_
 try simp only [SS]
 refine dN (have:=Z81.len a0.aZ;have:=H0.1;lm) ?_
 have Bh2:a0.bH.length<=maxLen:=(by
   have:=(H0.2).1
   try simp only [maxLen] at *
   omega)
 refine ex_eq (out:=(fun b:List Int=>ret ((b.map bk):aE))) (qP (g:=fun (y1:aD)=>(Z81.md y1)) (z:=⟨#[]⟩) (t:=fun (s3:List Int)=>s3) (s:=((Z81.md a0.aZ)++[a0.bI,a0.bX,(a0.bH.length:Int)]))) ?_
 refine dP (p:=Pt.p0 0 (ah.r a0) (((Z81.md a0.aZ)++[a0.bI,a0.bX,(a0.bH.length:Int)]).map bk)) fz ?_
 refine cm (pt:=fun (i1:Nat) (s3:List Int)=>Pt.p0 (i1:Int) (ah.r a0) (s3.map bk)) (s:=(((Z81.md a0.aZ)++[a0.bI,a0.bX,(a0.bH.length:Int)]):List Int)) (out:=(fun b:List Int=>ret ((b.map bk):aE))) (fun (i1:Nat) (s3:List Int)=>s3.length<=4+a0.aZ.size+i1*(2^21+1)) (fun J i1 s3 h2 hih2=>?_) (fun s3 hih2=>?_) (by
   have:=(H0.2).1
   have:=Z81.len a0.aZ
   have:=H0.1
   try simp only [LN]
   try simp
   try omega)
 ·simp only [step,SS]
  have gr_:=hih2
  try simp only [LN] at gr_
  have:=H0.1
  have bb_:=Bh2
  simp only [maxLen] at bb_
  have:=(H0.2).1
  refine bB.yes (by apply decide_eq_true;omega) ?_
  refine bB.yes aJ ?_
  refine bB.yes (aO h2) ?_
  refine cr (Z81.aj (bM.getD (z:=⟨#[]⟩) H0.2 h2)) ?_
  try simp only [SS]
  refine bB.yes (have:=Z81.len (a0.bH.getD i1 ⟨#[]⟩);have:=(bM.getD (z:=⟨#[]⟩) H0.2 h2);lm) ?_
  refine bB.inl (by
    have:=Z81.len (a0.bH.getD i1 ⟨#[]⟩)
    have:=(bM.getD (z:=⟨#[]⟩) H0.2 h2)
    have g_:=hih2
    try simp only [LN] at g_ ⊢
    first | omega | (simp;done) | (simp;omega)) ?_
  rw [aH h2 Bh2]
  all_goals exact fz
 ·simp only [step,SS]
  have gr_:=hih2
  try simp only [LN] at gr_
  have:=H0.1
  have:=(H0.2).1
  refine dF (by apply decide_eq_false;omega) ?_
  refine ⟨0,?_⟩
  all_goals exact fz
def af:cz 546 aW:=L1 33 pid ck cj live step start mix aF bt (.cons Z81.af .nil) Tryz.func546
def gw {a0:ah}(hg:gd a0):bM (2^43 - 1) (fun y:Int=>True) (md a0):=by
 unfold gd at hg
 refine ⟨?_,fun _ _=>trivial⟩
 unfold md
 have h1:=lP (xs:=a0.bH) (g:=fun y=>Z81.md y) (n:=2^21+1) (fun x hx=>by rw [Z81.len];have:=hg.2.2 x hx;omega)
 have h2:=hg.1
 have h3:=hg.2.1
 have h4:=Z81.len a0.aZ
 simp only [List.length_append,List.length_cons,List.length_nil]
 omega
end Z82
namespace Z83
def F (x0:aV):aI:=(call (Z82.R x0) fun v1=>(cq (ff (((1:Int)+(v1.length:Int))*8)) (call (Z56.R ([[L.int 227]]++v1)) fun v2=>ret (v2:Int))))
def md (a0:ah):Int:=((Z56.md ([227]++(Z82.md a0))):Int)
def gd (a0:ah):Prop:=(ah.Sm (2^21) a0)
def R:=RR gd md
def aj {a0}(h:gd a0):R (ah.r a0)=some (md a0):=aP (a:=a0) h
def aW:=CN [.agg rE] oI RT.dec R
def bt (a0)(hg:gd a0):F (ah.r a0)=ret (md a0):=by
 unfold gd at hg
 have H0:=hg
 unfold F md
 try simp only [SS]
 refine ct (Z82.aj H0) ?_
 try simp only [SS]
 refine ak (have:=((Z82.gw (a0:=a0) H0)).1;lm) ?_
 refine bg (Z56.md ([227]++(Z82.md a0))) (rq (Z56.aj (a0:=([227]++(Z82.md a0))) ⟨(have:=((Z82.gw (a0:=a0) H0)).1;om),fun _ _=>trivial⟩)) ?_
 all_goals exact fz
def af:cz 470 aW:=W1 8 F mix aF bt (.cons Z82.af (.cons Z56.af .nil)) Tryz.func470
end Z83
namespace Z84
inductive Pt where
 | p0 (a:aE) (b:Int) (c:aE)
def pid:Pt->Nat
 | .p0 ..=>3
def ck:Pt->List V
 | .p0 a b c=>[.sl none 61 a,.own 0,.int .i64 b]
def cj:Pt->List aY
 | .p0 a b c=>[.row 3 c]
def step (J:Pt->aI):Pt->aI
 | .p0 a b c=>(cond (decide (b<(a.length:Int))) (m2 b (a.length:Int) (call (Z83.R (aV.at a (toNat b))) fun v1=>(cq (ff (((c.length:Int)+1)*8)) (J (.p0 a (i64.wrap (b+1)) (c++[[L.int v1]])))))) (ret (c:aE)))
def start (J:Pt->aI)(x0:aE):aI:=J (.p0 x0 0 [])
def live:Nat->Live:=fun i=>match i with | 3=>[(0,none),(3,some 3),(4,none)] | _=>[]
def md (a0:List ah):List Int:=(a0.map (fun (y1:ah)=>(Z83.md y1)))
def gd (a0:List ah):Prop:=(bM (2^21) (fun y:ah=>ah.Sm (2^21) y) a0)
def R:=RR gd md
def aj {a0}(h:gd a0):R (a0.map ah.row)=some ((md a0).map bk):=aP (a:=a0) h
def aW:=CN [pL 61] (oL 3) RT.dec R
def bt (a0)(hg:gd a0):∃n,start (iter step n) (a0.map ah.row)=ret ((md a0).map bk):=by
 unfold gd at hg
 have H0:=hg
 unfold start md
 try simp only [SS]
 have Bh2:a0.length<=maxLen:=(by
   have:=(H0).1
   try simp only [maxLen] at *
   omega)
 refine ex_eq (out:=(fun b:List Int=>ret ((b.map bk):aE))) (ny (g:=fun (y1:ah)=>(Z83.md y1)) (z:=ah.zero) (t:=fun (s3:List Int)=>s3)) ?_
 refine dP (p:=Pt.p0 (a0.map ah.row) 0 ([].map bk)) fz ?_
 refine cm (pt:=fun (i1:Nat) (s3:List Int)=>Pt.p0 (a0.map ah.row) (i1:Int) (s3.map bk)) (s:=([]:List Int)) (out:=(fun b:List Int=>ret ((b.map bk):aE))) (fun (i1:Nat) (s3:List Int)=>s3.length<=([]:List Int).length+1*i1) (fun J i1 s3 h2 hih2=>?_) (fun s3 hih2=>?_) (by simp)
 ·simp only [step,SS]
  have gr_:=hih2
  try simp only [LN] at gr_
  have bb_:=Bh2
  simp only [maxLen] at bb_
  have:=(H0).1
  refine bB.yes (by apply decide_eq_true;omega) ?_
  refine bB.yes aJ ?_
  refine bB.yes (aO h2) ?_
  refine cr (Z83.aj (bM.getD (z:=ah.zero) H0 h2)) ?_
  refine bB.yes lm ?_
  refine bB.inl (by
    have g_:=hih2
    try simp only [LN] at g_ ⊢
    first | omega | (simp;done) | (simp;omega)) ?_
  rw [aH h2 Bh2]
  all_goals exact fz
 ·simp only [step,SS]
  have gr_:=hih2
  try simp only [LN] at gr_
  have:=(H0).1
  refine dF (by apply decide_eq_false;omega) ?_
  refine ⟨0,?_⟩
  all_goals exact fz
def af:cz 462 aW:=L1 21 pid ck cj live step start mix aF bt (.cons Z83.af .nil) Tryz.func462
def len (a0:List ah):(md a0).length=a0.length:=by simp [md]
end Z84
namespace Z85
def F (x0 x1:Int):aI:=(call (Z56.R [[L.int 229],[L.int x0],[L.int x1]]) fun v1=>ret (v1:Int))
def md (a0 a1:Int):Int:=((Z56.md [229,a0,a1]):Int)
def gd (a0 a1:Int):Prop:=True
def R:=RR (p2 gd) (u2 md)
def aj {a0 a1}(h:gd a0 a1):R (a0,a1)=some (md a0 a1):=aP (a:=(a0,a1)) h
def aW:=CN [pI,pI] oI RT.dec R
def bt (a0)(a1)(hg:gd a0 a1):F a0 a1=ret (md a0 a1):=by
 unfold F md
 try simp only [SS]
 refine bg (Z56.md [229,a0,a1]) (rq (Z56.aj (a0:=[229,a0,a1]) ⟨(om),fun _ _=>trivial⟩)) ?_
 all_goals exact fz
def af:cz 545 aW:=W2 9 F mix aF bt (.cons Z56.af .nil) Tryz.func545
end Z85
namespace Z86
inductive Pt where
 | p0 (a:aE) (b:Int) (c:aE)
def pid:Pt->Nat
 | .p0 ..=>3
def ck:Pt->List V
 | .p0 a b c=>[.sl none 3 a,.own 0,.int .i64 b]
def cj:Pt->List aY
 | .p0 a b c=>[.row 3 c]
def step (J:Pt->aI):Pt->aI
 | .p0 a b c=>(cond (decide (b<(a.length:Int))) (cond (decide ((i64.wrap (b+1))<(a.length:Int))) (m2 b (a.length:Int) (cq (decide ((0:Int)<=(i64.wrap (b+1)))) (cq (decide ((i64.wrap (b+1))<(a.length:Int))) (call (Z85.R ((jx a (toNat b)),(jx a (toNat (i64.wrap (b+1)))))) fun v1=>(cq (ff (((c.length:Int)+1)*8)) (J (.p0 a (i64.wrap (b+2)) (c++[[L.int v1]])))))))) (m2 b (a.length:Int) (cq (ff (((c.length:Int)+1)*8)) (J (.p0 a (i64.wrap (b+2)) (c++[[L.int (jx a (toNat b))]])))))) (ret (c:aE)))
def start (J:Pt->aI)(x0:aE):aI:=J (.p0 x0 0 [])
def live:Nat->Live:=fun i=>match i with | 3=>[(0,none),(3,some 3),(4,none)] | _=>[]
def up:List Int->List Int
 | []=>[]
 | [a]=>[a]
 | a::b::r=>Z85.md a b::up r
def ku:∀l:List Int,(up l).length=(l.length+1) / 2
 | []=>by simp [up]
 | [_]=>by simp [up]
 | _::_::r=>by
  have:=ku r
  simp only [up,List.length_cons]
  omega
def md (a0:List Int):List Int:=up a0
def gd (a0:List Int):Prop:=bM (2^38) (fun y:Int=>True) a0
def R:=RR gd md
def aj {a0}(h:gd a0):R (a0.map bk)=some ((md a0).map bk):=aP (a:=a0) h
def aW:=CN [pL 3] (oL 3) RT.dec R
def bt (a0)(hg:gd a0):∃n,start (iter step n) (a0.map bk)=ret ((md a0).map bk):=by
 obtain ⟨H1,_⟩:=hg
 have key:∀(k i:Nat) (c:List Int),i+k=a0.length->c.length<=i->∃n,iter step n (Pt.p0 (a0.map bk) (i:Int) (c.map bk))=ret ((c++up (a0.drop i)).map bk:aE):=by
  intro k
  induction k using Nat.strongRecOn with
  | _ k ih=>
  intro i c hi hc
  match k,hi,ih with
  | 0,hi,_=>
   refine ⟨1,?_⟩
   show step (iter step 0) (Pt.p0 _ _ _)=_
   simp only [step,List.length_map]
   refine cT (decide_eq_false (by omega)) ?_
   rw [List.drop_eq_nil_of_le (by omega)]
   simp only [up,List.append_nil]
  | 1,hi,ih=>
   obtain ⟨n,hn⟩:=ih 0 (by omega) (i+1) (c++[a0.getD i 0]) (by omega) (by simp;omega)
   have h2:∃n,iter step n (Pt.p0 (a0.map bk) (i64.wrap ((i:Int)+2)) ((c++[a0.getD i 0]).map bk))=ret ((c++[a0.getD i 0]).map bk:aE):=by
    refine ⟨1,?_⟩
    show step (iter step 0) (Pt.p0 _ _ _)=_
    simp only [step,List.length_map]
    refine cT (decide_eq_false ?_) rfl
    rw [Go.IntWalk.i64_in _ (by omega)];omega
   obtain ⟨n,hn⟩:=h2
   refine ⟨n+1,?_⟩
   show step (iter step n) (Pt.p0 _ _ _)=_
   simp only [step,List.length_map,cE,gR]
   refine ak (decide_eq_true (by omega)) (cT (decide_eq_false ?_) (ak (decide_eq_true (by omega)) (ak (decide_eq_true (by omega)) (ak (iP (by omega)) ?_))))
   ·rw [Go.IntWalk.i64_in _ (by omega)];omega
   ·rw [List.map_append] at hn
    refine Eq.trans hn ?_
    rw [List.drop_eq_getElem_cons (by omega),List.drop_eq_nil_of_le (by omega),eS (by omega:i<a0.length)]
    simp only [up,List.map_append]
  | k+2,hi,ih=>
   obtain ⟨n,hn⟩:=ih k (by omega) (i+2) (c++[Z85.md (a0.getD i 0) (a0.getD (i+1) 0)]) (by omega) (by simp;omega)
   refine ⟨n+1,?_⟩
   show step (iter step n) (Pt.p0 _ _ _)=_
   have w1:i64.wrap ((i:Int)+1)=((i+1:Nat):Int):=by rw [Go.IntWalk.i64_in _ (by omega)];omega
   have w2:i64.wrap ((i:Int)+2)=((i+2:Nat):Int):=by rw [Go.IntWalk.i64_in _ (by omega)];omega
   simp only [step,List.length_map,w1,w2,cE,gR]
   refine ak (decide_eq_true (by omega)) (ak (decide_eq_true (by omega)) (ak (decide_eq_true (by omega)) (ak (decide_eq_true (by omega)) (ak (decide_eq_true (by omega)) (ak (decide_eq_true (by omega)) ?_)))))
   refine bg (Z85.md (a0.getD i 0) (a0.getD (i+1) 0)) (Z85.aj trivial) (ak (iP (by omega)) ?_)
   rw [List.map_append] at hn
   refine Eq.trans hn ?_
   rw [List.drop_eq_getElem_cons (by omega:i<a0.length),List.drop_eq_getElem_cons (by omega:i+1<a0.length),eS (by omega:i<a0.length),eS (by omega:i+1<a0.length)]
   simp only [up,List.append_assoc,List.cons_append,List.nil_append]
 have:=key a0.length 0 [] (by omega) (by simp)
 unfold start md
 simpa using this
def af:cz 539 aW:=L1 38 pid ck cj live step start mix aF bt (.cons Z85.af .nil) Tryz.func539
end Z86
namespace Z87
inductive Pt where
 | p0 (a:aE)
 | p1 (a:aE)
def pid:Pt->Nat
 | .p0 ..=>4
 | .p1 ..=>4
def ck:Pt->List V
 | .p0 a=>[.sl none 3 a]
 | .p1 a=>[.own 0]
def cj:Pt->List aY
 | .p0 a=>[]
 | .p1 a=>[.row 3 a]
def step (J:Pt->aI):Pt->aI
 | .p0 a=>(cond (decide ((a.length:Int)>1)) (call (Z86.R a) fun v1=>J (.p1 v1)) (cq (decide ((0:Int)<(a.length:Int))) (ret ((jx a 0):Int))))
 | .p1 a=>(cond (decide ((a.length:Int)>1)) (call (Z86.R a) fun v1=>J (.p1 v1)) (cq (decide ((0:Int)<(a.length:Int))) (ret ((jx a 0):Int))))
def start (J:Pt->aI)(x0:aE):aI:=(cond ((x0.length:Int)==0) (call (Z56.R [[L.int 229]]) fun v1=>ret (v1:Int)) (J (.p0 x0)))
def live:Nat->Live:=fun i=>match i with | 4=>[(3,none)] | _=>[]
def top:Nat->List Int->Int
 | 0,l=>l.getD 0 0
 | k+1,l=>if l.length>1 then top k (Z86.up l) else l.getD 0 0
def md (a0:List Int):Int:=(if a0.length=0 then Z56.md [229] else top a0.length a0)
def gd (a0:List Int):Prop:=bM (2^38) (fun y:Int=>True) a0
def R:=RR gd md
def aj {a0}(h:gd a0):R (a0.map bk)=some (md a0):=aP (a:=a0) h
def aW:=CN [pL 3] oI RT.dec R
def bt (a0)(hg:gd a0):∃n,start (iter step n) (a0.map bk)=ret (md a0):=by
 have one:∀(l:List Int) (r:Int) (n:Nat),bM (2^38) (fun y:Int=>True) l->0<l.length->(if l.length>1 then iter step n (Pt.p1 ((Z86.up l).map bk))=ret r else ret (l.getD 0 0:Int)=ret r)->step (iter step n) (Pt.p0 (l.map bk))=ret r/\step (iter step n) (Pt.p1 (l.map bk))=ret r:=by
  intro l r n hl hp h
  simp only [step,List.length_map,gR]
  by_cases h1:l.length>1
  ·rw [if_pos h1] at h
   have hx:∀y:aI,(cond (decide ((l.length:Int)>1)) (call (Z86.R (l.map bk)) (fun v1=>iter step n (Pt.p1 v1))) y)=ret r:=fun y=>
    ak (decide_eq_true (by omega)) (bg ((Z86.up l).map bk) (Z86.aj hl) h)
   exact ⟨hx _,hx _⟩
  ·rw [if_neg h1] at h
   have hx:∀y:aI,(cond (decide ((l.length:Int)>1)) y (cond (decide ((0:Int)<(l.length:Int))) (ret (l.getD 0 0:Int)) none))=ret r:=fun y=>
    cT (decide_eq_false (by omega)) (ak (decide_eq_true (by omega)) h)
   exact ⟨hx _,hx _⟩
 have key:∀(k:Nat) (l:List Int),bM (2^38) (fun y:Int=>True) l->0<l.length->l.length<=k+1->∃n,step (iter step n) (Pt.p0 (l.map bk))=ret (top k l)/\step (iter step n) (Pt.p1 (l.map bk))=ret (top k l):=by
  intro k
  induction k with
  | zero=>
   intro l hl hp hk
   exact ⟨0,one l _ 0 hl hp (by rw [if_neg (by omega)];rfl)⟩
  | succ k ih=>
   intro l hl hp hk
   by_cases h1:l.length>1
   ·have hu:=Z86.ku l
    have hl1:=hl.1
    obtain ⟨n,_,hn⟩:=ih (Z86.up l) ⟨by omega,fun _ _=>trivial⟩ (by omega) (by omega)
    refine ⟨n+1,one l _ (n+1) hl hp ?_⟩
    rw [if_pos h1]
    refine Eq.trans hn ?_
    unfold top
    rw [if_pos h1]
    cases k<;>rfl
   ·refine ⟨0,one l _ 0 hl hp ?_⟩
    rw [if_neg h1]
    unfold top
    rw [if_neg h1]
 unfold md
 unfold start
 simp only [List.length_map]
 by_cases h0:a0.length=0
 ·have e:((a0.length:Int)==0)=true:=by simpa using List.length_eq_zero_iff.1 h0
  refine ⟨0,?_⟩
  rw [e]
  refine bg (Z56.md [229]) (Z56.aj (a0:=[229]) ⟨by decide,fun _ _=>trivial⟩) ?_
  rw [if_pos h0]
 ·have e:((a0.length:Int)==0)=false:=beq_eq_false_iff_ne.2 (by omega)
  obtain ⟨n,hn,_⟩:=key a0.length a0 hg (by omega) (by omega)
  refine ⟨n+1,?_⟩
  rw [e,if_neg h0]
  exact hn
def af:cz 547 aW:=L1 18 pid ck cj live step start mix aF bt (.cons Z56.af (.cons Z86.af .nil)) Tryz.func547
end Z87
namespace Z88
def F (x0 x1:Int):aI:=(call (Z56.R [[L.int 231],[L.int x0],[L.int x1]]) fun v1=>ret (v1:Int))
def md (a0 a1:Int):Int:=((Z56.md [231,a0,a1]):Int)
def gd (a0 a1:Int):Prop:=True
def R:=RR (p2 gd) (u2 md)
def aj {a0 a1}(h:gd a0 a1):R (a0,a1)=some (md a0 a1):=aP (a:=(a0,a1)) h
def aW:=CN [pI,pI] oI RT.dec R
def bt (a0)(a1)(hg:gd a0 a1):F a0 a1=ret (md a0 a1):=by
 unfold F md
 try simp only [SS]
 refine bg (Z56.md [231,a0,a1]) (rq (Z56.aj (a0:=[231,a0,a1]) ⟨(om),fun _ _=>trivial⟩)) ?_
 all_goals exact fz
def af:cz 471 aW:=W2 9 F mix aF bt (.cons Z56.af .nil) Tryz.func471
end Z88
namespace Z89
def F (x0:aE):aI:=(call (Z84.R x0) fun v1=>(call (Z87.R v1) fun v2=>(call (Z88.R ((x0.length:Int),v2)) fun v3=>ret (v3:Int))))
def md (a0:List ah):Int:=((Z88.md (a0.length:Int) (Z87.md (Z84.md a0))):Int)
def gd (a0:List ah):Prop:=(bM (2^21) (fun y:ah=>ah.Sm (2^21) y) a0)
def R:=RR gd md
def aj {a0}(h:gd a0):R (a0.map ah.row)=some (md a0):=aP (a:=a0) h
def aW:=CN [pL 61] oI RT.dec R
def bt (a0)(hg:gd a0):F (a0.map ah.row)=ret (md a0):=by
 unfold gd at hg
 have H0:=hg
 unfold F md
 try simp only [SS]
 refine ct (Z84.aj H0) ?_
 try simp only [SS]
 refine ct (Z87.aj ⟨(have:=Z84.len a0;have:=(H0).1;om),fun _ _=>trivial⟩) ?_
 refine ct (Z88.aj trivial) ?_
 all_goals exact fz
def af:cz 473 aW:=W1 9 F mix aF bt (.cons Z84.af (.cons Z87.af (.cons Z88.af .nil))) Tryz.func473
end Z89
namespace Z90
def F (x0:Int)(x1:aE):aI:=(call (Z79.R x1) fun v1=>(cond v1 (call (Z89.R x1) fun v2=>ret ((v2==x0):Bool)) bz))
def md (a0:Int)(a1:List ah):Bool:=(cond (Z79.md a1) (((Z89.md a1)==a0):Bool) (false:Bool))
def gd (a0:Int)(a1:List ah):Prop:=(bM (2^21) (fun y:ah=>ah.Sm (2^21) y) a1)
def R:=RR (p2 gd) (u2 md)
def aj {a0 a1}(h:gd a0 a1):R (a0,(a1.map ah.row))=some (md a0 a1):=aP (a:=(a0,a1)) h
def aW:=CN [pI,pL 61] oB RT.dec R
def bt (a0)(a1)(hg:gd a0 a1):F a0 (a1.map ah.row)=ret (md a0 a1):=by
 unfold gd at hg
 have H1:=hg
 unfold F md
 try simp only [SS]
 refine ct (Z79.aj H1) ?_
 refine av ret (fun c1=>?_) (fun _=>rfl)
 refine ct (Z89.aj H1) ?_
 all_goals exact fz
def af:cz 460 aW:=W2 13 F mix aF bt (.cons Z79.af (.cons Z89.af .nil)) Tryz.func460
end Z90
namespace Z91
def F (x0:dQ):aI:=(call (Z76.R x0.aU) fun v1=>(cond v1.2 (cond (v1.1.cy==(x0.bO.length:Int)) (call (Z90.R (v1.1.dm,x0.bO)) fun v2=>ret (v2:Bool)) bz) bz))
def md (a0:aL):Bool:=(cond ((Z76.md a0.aU).2) (cond ((Z76.md a0.aU).1.cy==(a0.bO.length:Int)) ((Z90.md ((Z76.md a0.aU).1.dm) a0.bO):Bool) (false:Bool)) (false:Bool))
def gd (a0:aL):Prop:=(aL.Sm (2^21) a0)
def R:=RR gd md
def aj {a0}(h:gd a0):R (aL.r a0)=some (md a0):=aP (a:=a0) h
def aW:=CN [.agg sU] oB RT.dec R
def bt (a0)(hg:gd a0):F (aL.r a0)=ret (md a0):=by
 unfold gd at hg
 have H0:=hg
 unfold F md
 try simp only [SS]
 refine ct (Z76.aj H0.1) ?_
 try simp only [SS]
 refine av ret (fun c1=>?_) (fun _=>rfl)
 refine av ret (fun c2=>?_) (fun _=>rfl)
 refine ct (Z90.aj H0.2) ?_
 all_goals exact fz
def af:cz 376 aW:=W1 27 F mix aF bt (.cons Z76.af (.cons Z90.af .nil)) Tryz.func376
end Z91
namespace Z92
def F (x0:dQ):aI:=(call (Z76.R x0.aU) fun v1=>(call (Z91.R x0) fun v2=>(cond (!v2) (ret ((-1):Int)) (ret (v1.1.bC:Int)))))
def md (a0:aL):Int:=(cond (!(Z91.md a0)) ((-1):Int) ((Z76.md a0.aU).1.bC:Int))
def gd (a0:aL):Prop:=(aL.Sm (2^21) a0)
def R:=RR gd md
def aj {a0}(h:gd a0):R (aL.r a0)=some (md a0):=aP (a:=a0) h
def aW:=CN [.agg sU] oI RT.dec R
def bt (a0)(hg:gd a0):F (aL.r a0)=ret (md a0):=by
 unfold gd at hg
 have H0:=hg
 unfold F md
 try simp only [SS]
 refine ct (Z76.aj H0.1) ?_
 try simp only [SS]
 refine ct (Z91.aj H0) ?_
 refine av ret (fun _=>rfl) (fun c1=>?_)
 all_goals exact fz
def af:cz 263 aW:=W1 16 F mix aF bt (.cons Z76.af (.cons Z91.af .nil)) Tryz.func263
end Z92
namespace Z93
inductive Pt where
 | p0 (a b:Int) (c:cP)
def pid:Pt->Nat
 | .p0 ..=>2
def ck:Pt->List V
 | .p0 a b c=>[.int .i64 a,.dz 0 0,.int .i64 b]
def cj:Pt->List aY
 | .p0 a b c=>[.box [.sl none 293 c.bJ,.int .i64 c.gW]]
def step (J:Pt->aI):Pt->aI
 | .p0 a b c=>(cond (decide (b<(c.bJ.length:Int))) (m2 b (c.bJ.length:Int) (call (Z92.R (dQ.at c.bJ (toNat b))) fun v1=>(cond (v1==a) (cond (decide (a>=0)) (ret (b:Int)) (J (.p0 a (i64.wrap (b+1)) c))) (J (.p0 a (i64.wrap (b+1)) c))))) (ret ((-1):Int)))
def start (J:Pt->aI)(x0:cP)(x1:Int):aI:=J (.p0 x1 0 x0)
def live:Nat->Live:=fun i=>match i with | 2=>[(1,none),(2,none),(5,none)] | _=>[]
def md (a0:ay)(a1:Int):Int:=(dW (S:=Unit) (β:=Int) (fun (i1:Nat) (y1:aL) (s3:Unit)=>(cond ((Z92.md y1)==a1) (cond (decide (a1>=0)) (.inr ((i1:Int):Int)) (.inl ())) (.inl ()))) (fun (s3:Unit)=>((-1):Int)) 0 a0.bJ ())
def gd (a0:ay)(a1:Int):Prop:=(ay.Sm (2^21) a0)
def R:=RR (p2 gd) (u2 md)
def aj {a0 a1}(h:gd a0 a1):R ((ay.r a0),a1)=some (md a0 a1):=aP (a:=(a0,a1)) h
def aW:=CN [.agg yU,pI] oI RT.dec R
def bt (a0)(a1)(hg:gd a0 a1):∃n,start (iter step n) (ay.r a0) a1=ret (md a0 a1):=by
 unfold gd at hg
 have H0:=hg
 unfold start md
 try simp only [SS]
 have Bh2:a0.bJ.length<=maxLen:=(by
   have:=(H0).1
   try simp only [maxLen] at *
   omega)
 refine ex_eq (out:=ret) (cX (z:=aL.zero)) ?_
 refine dP (p:=Pt.p0 a1 0 (ay.r a0)) fz ?_
 refine cm (pt:=fun (i1:Nat) (s3:Unit)=>Pt.p0 a1 (i1:Int) (ay.r a0)) (s:=(():Unit)) (out:=ret) (fun _ _=>True) (fun J i1 s3 h2 hih2=>?_) (fun s3 hih2=>?_) trivial
 ·simp only [step,SS]
  have bb_:=Bh2
  simp only [maxLen] at bb_
  have:=(H0).1
  refine bB.yes (by apply decide_eq_true;omega) ?_
  refine bB.yes aJ ?_
  refine bB.yes (aO h2) ?_
  refine cr (Z92.aj (bM.getD (z:=aL.zero) H0 h2)) ?_
  refine bB.bif (fun c4=>?_) (fun c4=>?_)
  ·refine bB.bif (fun c5=>?_) (fun c5=>?_)
   ·refine bB.inr ?_
    all_goals exact fz
   ·refine bB.inl trivial ?_
    rw [aH h2 Bh2]
    all_goals exact fz
  ·refine bB.inl trivial ?_
   rw [aH h2 Bh2]
   all_goals exact fz
 ·simp only [step,SS]
  have:=(H0).1
  refine dF (by apply decide_eq_false;omega) ?_
  refine ⟨0,?_⟩
  all_goals exact fz
def af:cz 435 aW:=L2 26 pid ck cj live step start mix aF bt (.cons Z92.af .nil) Tryz.func435
def fa (a0:ay)(a1:Int):-1<=md a0 a1/\md a0 a1<(a0.bJ.length:Int):=by
 unfold md
 refine fK ?_ _ _
 all_goals
  intro i x s b h
  revert h
  simp only [Bool.cond_eq_ite]
  repeat' split
  all_goals (intro h;first | (cases h;rfl) | cases h)
end Z93
namespace Z94
inductive Pt where
 | p0 (a:aE) (b:aD) (c:Int)
def pid:Pt->Nat
 | .p0 ..=>2
def ck:Pt->List V
 | .p0 a b c=>[.sl none 61 a,.str b,.int .i64 c]
def cj:Pt->List aY
 | .p0 a b c=>[]
def step (J:Pt->aI):Pt->aI
 | .p0 a b c=>(cond (decide (c<(a.length:Int))) (m2 c (a.length:Int) (cond ((aV.at a (toNat c)).aZ==b) (ret (c:Int)) (J (.p0 a b (i64.wrap (c+1)))))) (ret ((-1):Int)))
def start (J:Pt->aI)(x0:aE)(x1:aD):aI:=J (.p0 x0 x1 0)
def live:Nat->Live:=fun i=>match i with | 2=>[(0,none),(1,none),(5,none)] | _=>[]
def md (a0:List ah)(a1:aD):Int:=(dW (S:=Unit) (β:=Int) (fun (i1:Nat) (y1:ah) (s3:Unit)=>(cond (y1.aZ==a1) (.inr ((i1:Int):Int)) (.inl ()))) (fun (s3:Unit)=>((-1):Int)) 0 a0 ())
def gd (a0:List ah)(a1:aD):Prop:=(bM (2^21) (fun y:ah=>ah.Sm (2^21) y) a0)
def R:=RR (p2 gd) (u2 md)
def aj {a0 a1}(h:gd a0 a1):R ((a0.map ah.row),a1)=some (md a0 a1):=aP (a:=(a0,a1)) h
def aW:=CN [pL 61,pS] oI RT.dec R
def bt (a0)(a1)(hg:gd a0 a1):∃n,start (iter step n) (a0.map ah.row) a1=ret (md a0 a1):=by
 unfold gd at hg
 have H0:=hg
 unfold start md
 try simp only [SS]
 have Bh2:a0.length<=maxLen:=(by
   have:=(H0).1
   try simp only [maxLen] at *
   omega)
 refine ex_eq (out:=ret) (cX (z:=ah.zero)) ?_
 refine dP (p:=Pt.p0 (a0.map ah.row) a1 0) fz ?_
 refine cm (pt:=fun (i1:Nat) (s3:Unit)=>Pt.p0 (a0.map ah.row) a1 (i1:Int)) (s:=(():Unit)) (out:=ret) (fun _ _=>True) (fun J i1 s3 h2 hih2=>?_) (fun s3 hih2=>?_) trivial
 ·simp only [step,SS]
  have bb_:=Bh2
  simp only [maxLen] at bb_
  have:=(H0).1
  refine bB.yes (by apply decide_eq_true;omega) ?_
  refine bB.yes aJ ?_
  refine bB.yes (aO h2) ?_
  refine bB.bif (fun c4=>?_) (fun c4=>?_)
  ·refine bB.inr ?_
   all_goals exact fz
  ·refine bB.inl trivial ?_
   rw [aH h2 Bh2]
   all_goals exact fz
 ·simp only [step,SS]
  have:=(H0).1
  refine dF (by apply decide_eq_false;omega) ?_
  refine ⟨0,?_⟩
  all_goals exact fz
def af:cz 377 aW:=L2 20 pid ck cj live step start mix aF bt .nil Tryz.func377
def fa (a0:List ah)(a1:aD):-1<=md a0 a1/\md a0 a1<(a0.length:Int):=by
 unfold md
 refine fK ?_ _ _
 all_goals
  intro i x s b h
  revert h
  simp only [Bool.cond_eq_ite]
  repeat' split
  all_goals (intro h;first | (cases h;rfl) | cases h)
end Z94
namespace Z95
def F (x0:aV):aI:=(call (Z50.R x0.bH) fun v1=>ret ((⟨x0.aZ,x0.bI,x0.bX,v1⟩:aV):aV))
def md (a0:ah):ah:=a0
def gd (a0:ah):Prop:=(ah.Sm (2^21) a0)
def R:=RR gd md
def aj {a0}(h:gd a0):R (ah.r a0)=some (ah.r a0):=aP (a:=a0) h
def aW:=CN [.agg rE] (.agg f61) RT.dec R
def bt (a0)(hg:gd a0):F (ah.r a0)=ret (ah.r (md a0)):=by
 unfold gd at hg
 have H0:=hg
 unfold F md
 try simp only [SS]
 refine ct (Z50.aj H0.2) ?_
 try simp only [SS]
 all_goals exact fz
def af:cz 286 aW:=W1 13 F mix aF bt (.cons Z50.af .nil) Tryz.func286
end Z95
namespace Z96
inductive Pt where
 | p0 (a:Int) (b c:aE)
 | p1 (a:Int) (b c:aE)
def pid:Pt->Nat
 | .p0 ..=>5
 | .p1 ..=>5
def ck:Pt->List V
 | .p0 a b c=>[.int .i64 a,.own 0,.sl none 3 b]
 | .p1 a b c=>[.int .i64 a,.own 0,.own 1]
def cj:Pt->List aY
 | .p0 a b c=>[.row 3 c]
 | .p1 a b c=>[.row 3 b,.row 3 c]
def step (J:Pt->aI):Pt->aI
 | .p0 a b c=>(cond (decide ((b.length:Int)>1)) (cond (decide ((i64.wrap ((i64.wrap (a+1)) - (i64.wrap (2*(Int.tmod a 2)))))<(b.length:Int))) (cq (decide ((0:Int)<=(i64.wrap ((i64.wrap (a+1)) - (i64.wrap (2*(Int.tmod a 2))))))) (cq (decide ((i64.wrap ((i64.wrap (a+1)) - (i64.wrap (2*(Int.tmod a 2)))))<(b.length:Int))) (cq (ff (((c.length:Int)+1)*8)) (call (Z86.R b) fun v1=>J (.p1 (i64.wrap (Int.tdiv a 2)) (c++[[L.int (jx b (toNat (i64.wrap ((i64.wrap (a+1)) - (i64.wrap (2*(Int.tmod a 2)))))))]]) v1))))) (call (Z86.R b) fun v2=>J (.p1 (i64.wrap (Int.tdiv a 2)) c v2))) (ret (c:aE)))
 | .p1 a b c=>(cond (decide ((c.length:Int)>1)) (cond (decide ((i64.wrap ((i64.wrap (a+1)) - (i64.wrap (2*(Int.tmod a 2)))))<(c.length:Int))) (cq (decide ((0:Int)<=(i64.wrap ((i64.wrap (a+1)) - (i64.wrap (2*(Int.tmod a 2))))))) (cq (decide ((i64.wrap ((i64.wrap (a+1)) - (i64.wrap (2*(Int.tmod a 2)))))<(c.length:Int))) (cq (ff (((b.length:Int)+1)*8)) (call (Z86.R c) fun v1=>J (.p1 (i64.wrap (Int.tdiv a 2)) (b++[[L.int (jx c (toNat (i64.wrap ((i64.wrap (a+1)) - (i64.wrap (2*(Int.tmod a 2)))))))]]) v1))))) (call (Z86.R c) fun v2=>J (.p1 (i64.wrap (Int.tdiv a 2)) b v2))) (ret (b:aE)))
def start (J:Pt->aI)(x0:aE)(x1:Int):aI:=(call (Z47.R (x1,0,(i64.wrap ((x0.length:Int) - 1)))) fun v1=>(cond (!v1) (ret ([]:aE)) (J (.p0 x1 x0 []))))
def live:Nat->Live:=fun i=>match i with | 5=>[(1,none),(5,some 3),(6,none)] | _=>[]
def vp (i:Nat):Nat:=if i % 2=0 then i+1 else i - 1
def vo (i:Nat)(l c:List Int):List Int:=if vp i<l.length then c++[l.getD (vp i) 0] else c
def zc:Nat->Nat->List Int->List Int->List Int
 | 0,_,_,c=>c
 | k+1,i,l,c=>if l.length>1 then zc k (i / 2) (Z86.up l) (vo i l c) else c
def sZ:∀(k i:Nat) (l c:List Int),(zc k i l c).length<=c.length+k
 | 0,_,_,c=>Nat.le_refl _
 | k+1,i,l,c=>by
  unfold zc
  by_cases h:l.length>1
  ·rw [if_pos h]
   have:=sZ k (i / 2) (Z86.up l) (vo i l c)
   have h2:(vo i l c).length<=c.length+1:=by unfold vo;split<;>simp
   omega
  ·rw [if_neg h];omega
def half (i:Nat)(h:i<2^40):i64.wrap (Int.tdiv (i:Int) 2)=((i / 2:Nat):Int):=by
 rw [show Int.tdiv (i:Int) 2=((i / 2:Nat):Int) from rfl,wi _ (by omega)]
def AM (i:Nat)(h:i<2^40):i64.wrap (i64.wrap ((i:Int)+1) - i64.wrap (2*Int.tmod (i:Int) 2))=((vp i:Nat):Int):=by
 rw [show Int.tmod (i:Int) 2=((i % 2:Nat):Int) from rfl,wi ((i:Int)+1) (by omega),wi (2*((i % 2:Nat):Int)) (by omega),wi _ (by omega)]
 unfold vp
 split<;>omega
def md (a0:List Int)(a1:Int):List Int:=bif Z47.md a1 0 (i64.wrap ((a0.length:Int) - 1)) then zc a0.length a1.toNat a0 [] else []
def gd (a0:List Int)(a1:Int):Prop:=bM (2^38) (fun y:Int=>True) a0
def R:=RR (p2 gd) (u2 md)
def aj {a0 a1}(h:gd a0 a1):R ((a0.map bk),a1)=some ((md a0 a1).map bk):=aP (a:=(a0,a1)) h
def aW:=CN [pL 3,pI] (oL 3) RT.dec R
def bt (a0)(a1)(hg:gd a0 a1):∃n,start (iter step n) (a0.map bk) a1=ret ((md a0 a1).map bk):=by
 have one:∀(i:Nat) (l c r:List Int) (n:Nat),bM (2^38) (fun y:Int=>True) l->i<2^40->c.length<2^40->(if l.length>1 then iter step n (Pt.p1 ((i / 2:Nat):Int) ((vo i l c).map bk) ((Z86.up l).map bk))=ret (r.map bk) else c=r)->
   step (iter step n) (Pt.p0 (i:Int) (l.map bk) (c.map bk))=ret (r.map bk)/\step (iter step n) (Pt.p1 (i:Int) (c.map bk) (l.map bk))=ret (r.map bk):=by
  intro i l c r n hl hi hc h
  have hs:=AM i hi
  have hd:=half i hi
  refine ⟨?_,?_⟩
  all_goals
   simp only [step,MM,List.length_map,gR,hs,hd,cE]
   by_cases h1:l.length>1
   ·rw [if_pos h1] at h
    rw [decide_eq_true (show (l.length:Int)>1 by omega),bh]
    by_cases h2:vp i<l.length
    ·rw [vo,if_pos h2,List.map_append] at h
     rw [decide_eq_true (show ((vp i:Nat):Int)<(l.length:Int) by omega),bh,decide_eq_true (show (0:Int)<=((vp i:Nat):Int) by omega),bh,bh,iP (by omega),bh]
     exact bg ((Z86.up l).map bk) (Z86.aj hl) h
    ·rw [vo,if_neg h2] at h
     rw [decide_eq_false (show ¬((vp i:Nat):Int)<(l.length:Int) by omega),bq]
     exact bg ((Z86.up l).map bk) (Z86.aj hl) h
   ·rw [if_neg h1] at h
    rw [decide_eq_false (show ¬(l.length:Int)>1 by omega),bq,h]
 have key:∀(k i:Nat) (l c:List Int),bM (2^38) (fun y:Int=>True) l->l.length<=k->i<2^40->c.length+k<2^40->
   ∃n,step (iter step n) (Pt.p0 (i:Int) (l.map bk) (c.map bk))=ret ((zc k i l c).map bk)/\step (iter step n) (Pt.p1 (i:Int) (c.map bk) (l.map bk))=ret ((zc k i l c).map bk):=by
  intro k
  induction k with
  | zero=>intro i l c hl hk hi hc;exact ⟨0,one i l c _ 0 hl hi (by omega) (by rw [if_neg (by omega)];rfl)⟩
  | succ k ih=>
   intro i l c hl hk hi hc
   unfold zc
   by_cases h1:l.length>1
   ·have hu:=Z86.ku l
    have hl1:=hl.1
    have h2:(vo i l c).length<=c.length+1:=by unfold vo;split<;>simp
    obtain ⟨n,_,hn⟩:=ih (i / 2) (Z86.up l) (vo i l c) ⟨by omega,fun _ _=>trivial⟩ (by omega) (by omega) (by omega)
    rw [if_pos h1]
    exact ⟨n+1,one i l c _ (n+1) hl hi (by omega) (by rw [if_pos h1];exact hn)⟩
   ·rw [if_neg h1]
    exact ⟨0,one i l c _ 0 hl hi (by omega) (by rw [if_neg h1])⟩
 unfold gd at hg
 unfold start md
 simp only [List.length_map]
 have hlen:=hg.1
 cases h:Z47.md a1 0 (i64.wrap ((a0.length:Int) - 1))
 ·exact ⟨0,bg false (by rw [<-h];exact Z47.aj trivial) rfl⟩
 ·have hh:=h
  rw [wi _ (by omega)] at hh
  simp [Z47.md] at hh
  obtain ⟨i,rfl⟩:=Int.eq_ofNat_of_zero_le hh.1
  obtain ⟨n,hn,_⟩:=key a0.length i a0 [] hg (Nat.le_refl _) (by omega) (by simp only [List.length_nil];omega)
  exact ⟨n+1,bg true (by rw [<-h];exact Z47.aj trivial) hn⟩
def af:cz 461 aW:=L2 42 pid ck cj live step start mix aF bt (.cons Z47.af (.cons Z86.af .nil)) Tryz.func461
def len (a0:List Int)(a1:Int):(md a0 a1).length<=a0.length:=by
 unfold md
 cases Z47.md _ 0 _
 ·exact zero_le _
 ·exact le_trans (sZ _ _ _ _) (by simp)
end Z96
namespace Z97
def F (x0:aE)(x1:aD):aI:=(call (Z94.R (x0,x1)) fun v1=>(cond (decide (v1<0)) (ret (((⟨0,[]⟩:bS),false):bS×Bool)) (call (Z84.R x0) fun v2=>(call (Z96.R (v2,v1)) fun v3=>ret (((⟨v1,v3⟩:bS),true):bS×Bool)))))
def md (a0:List ah)(a1:aD):aN×Bool:=(cond (decide ((Z94.md a0 a1)<0)) ((⟨0,[]⟩:aN),false) ((⟨(Z94.md a0 a1),(Z96.md (Z84.md a0) (Z94.md a0 a1))⟩:aN),true))
def gd (a0:List ah)(a1:aD):Prop:=(bM (2^21) (fun y:ah=>ah.Sm (2^21) y) a0)
def R:=RR (p2 gd) (u2 md)
def aj {a0 a1}(h:gd a0 a1):R ((a0.map ah.row),a1)=some ((aN.r (md a0 a1).1),(md a0 a1).2):=aP (a:=(a0,a1)) h
def aW:=CN [pL 61,pS] (.iQ [(true,f128),(false,[fB])]) RT.dec R
def bt (a0)(a1)(hg:gd a0 a1):F (a0.map ah.row) a1=ret ((aN.r (md a0 a1).1),(md a0 a1).2):=by
 unfold gd at hg
 have H0:=hg
 unfold F md
 try simp only [SS]
 refine ct (Z94.aj H0) ?_
 have fv1_:=Z94.fa a0 a1
 refine av (fun b:aN×Bool=>ret (((aN.r b.1),b.2):bS×Bool)) (fun c1=>?_) (fun c1=>?_)
 ·all_goals exact fz
 ·have dc1:=c1
  try simp only [DC] at dc1
  refine ct (Z84.aj H0) ?_
  try simp only [SS]
  refine ct (Z96.aj ⟨(have:=Z84.len a0;have:=(H0).1;om),fun _ _=>trivial⟩) ?_
  try simp only [SS]
  all_goals exact fz
def af:cz 378 aW:=W2 19 F mix aF bt (.cons Z94.af (.cons Z84.af (.cons Z96.af .nil))) Tryz.func378
def gw {a0:List ah}{a1:aD}(hg:gd a0 a1):aN.Sm (2^21) ((md a0 a1).1):=by
 unfold gd at hg;unfold md
 cases decide (Z94.md a0 a1<0)
 ·refine ⟨?_,fun _ _=>trivial⟩
  have h:=Z96.len (Z84.md a0) (Z94.md a0 a1)
  rw [Z84.len] at h
  exact le_trans h hg.1
 ·exact bM.nil
def sz (a0:List ah)(a1:aD):aN.size (md a0 a1).1<=a0.length:=by
 unfold aN.size md
 rw [qA]
 cases decide (Z94.md a0 a1<0)
 ·have:=Z96.len (Z84.md a0) (Z94.md a0 a1)
  rw [Z84.len] at this
  exact this
 ·exact zero_le _
end Z97
namespace Z98
inductive Pt where
 | p0 (a:aE) (b:aD) (c d:Int)
def pid:Pt->Nat
 | .p0 ..=>3
def ck:Pt->List V
 | .p0 a b c d=>[.sl none 61 a,.str b,.int .i64 c,.int .i64 d]
def cj:Pt->List aY
 | .p0 a b c d=>[]
def step (J:Pt->aI):Pt->aI
 | .p0 a b c d=>(cond (decide (d<(a.length:Int))) (m2 d (a.length:Int) (call (Z78.R ((aV.at a (toNat d)).aZ,b)) fun v1=>(cond (decide (v1<0)) (J (.p0 a b (i64.wrap (c+1)) (i64.wrap (d+1)))) (J (.p0 a b c (i64.wrap (d+1))))))) (ret (c:Int)))
def start (J:Pt->aI)(x0:aE)(x1:aD):aI:=J (.p0 x0 x1 0 0)
def live:Nat->Live:=fun i=>match i with | 3=>[(0,none),(1,none),(5,none),(6,none)] | _=>[]
def md (a0:List ah)(a1:aD):Int:=(ep (S:=Int) (β:=Int) (fun (y1:ah) (s3:Int)=>(cond (decide ((Z78.md (y1.aZ) a1)<0)) (.inl (i64.wrap (s3+1))) (.inl s3))) (fun (s3:Int)=>(s3:Int)) a0 0)
def gd (a0:List ah)(a1:aD):Prop:=(bM (2^21) (fun y:ah=>ah.Sm (2^21) y) a0)
def R:=RR (p2 gd) (u2 md)
def aj {a0 a1}(h:gd a0 a1):R ((a0.map ah.row),a1)=some (md a0 a1):=aP (a:=(a0,a1)) h
def aW:=CN [pL 61,pS] oI RT.dec R
def bt (a0)(a1)(hg:gd a0 a1):∃n,start (iter step n) (a0.map ah.row) a1=ret (md a0 a1):=by
 unfold gd at hg
 have H0:=hg
 unfold start md
 try simp only [SS]
 have Bh2:a0.length<=maxLen:=(by
   have:=(H0).1
   try simp only [maxLen] at *
   omega)
 refine ex_eq (out:=ret) (eM (z:=ah.zero)) ?_
 refine dP (p:=Pt.p0 (a0.map ah.row) a1 0 0) fz ?_
 refine cm (pt:=fun (i1:Nat) (s3:Int)=>Pt.p0 (a0.map ah.row) a1 s3 (i1:Int)) (s:=(0:Int)) (out:=ret) (fun _ _=>True) (fun J i1 s3 h2 hih2=>?_) (fun s3 hih2=>?_) trivial
 ·simp only [step,SS]
  have bb_:=Bh2
  simp only [maxLen] at bb_
  have:=(H0).1
  refine bB.yes (by apply decide_eq_true;omega) ?_
  refine bB.yes aJ ?_
  refine bB.yes (aO h2) ?_
  refine cr (Z78.aj trivial) ?_
  refine bB.bif (fun c4=>?_) (fun c4=>?_)
  ·refine bB.inl trivial ?_
   rw [aH h2 Bh2]
   all_goals exact fz
  ·refine bB.inl trivial ?_
   rw [aH h2 Bh2]
   all_goals exact fz
 ·simp only [step,SS]
  have:=(H0).1
  refine dF (by apply decide_eq_false;omega) ?_
  refine ⟨0,?_⟩
  all_goals exact fz
def af:cz 464 aW:=L2 24 pid ck cj live step start mix aF bt (.cons Z78.af .nil) Tryz.func464
def fa (a0:List ah)(a1:aD):a0.length<=2^21->0<=md a0 a1/\md a0 a1<=(a0.length:Int):=fun hl=>by
 have key:∀(xs:List ah) (s:Int),0<=s->s+xs.length<=2^22->0<=ep (S:=Int) (β:=Int) (fun (y1:ah) (s3:Int)=>(cond (decide ((Z78.md (y1.aZ) a1)<0)) (.inl (i64.wrap (s3+1))) (.inl s3))) (fun (s3:Int)=>(s3:Int)) xs s/\ep (S:=Int) (β:=Int) (fun (y1:ah) (s3:Int)=>(cond (decide ((Z78.md (y1.aZ) a1)<0)) (.inl (i64.wrap (s3+1))) (.inl s3))) (fun (s3:Int)=>(s3:Int)) xs s<=s+xs.length:=by
  intro xs
  induction xs with
  | nil=>intro s h0 h1;exact ⟨h0,by simp [ep]⟩
  | cons x xs ih=>
   intro s h0 h1
   simp only [List.length_cons] at h1 ⊢
   unfold ep
   cases decide (Z78.md x.aZ a1<0)
   ·have:=ih s h0 (by omega)
    simp only [bq]
    omega
   ·have:=ih (s+1) (by omega) (by omega)
    simp only [bh]
    rw [wi _ (by omega)]
    omega
 have:=key a0 0 (Int.le_refl _) (by omega)
 unfold md
 omega
end Z98
namespace Z99
def F (x0:aE)(x1:aD):aI:=(call (Z79.R x0) fun v1=>(cond (!v1) (ret (((⟨0,(⟨(⟨#[]⟩:aD),0,0,[]⟩:aV),(⟨(⟨#[]⟩:aD),0,0,[]⟩:aV),(⟨0,[]⟩:bS),(⟨0,[]⟩:bS)⟩:dS),false):dS×Bool)) (call (Z48.R x1) fun v2=>(cond (!v2) (ret (((⟨0,(⟨(⟨#[]⟩:aD),0,0,[]⟩:aV),(⟨(⟨#[]⟩:aD),0,0,[]⟩:aV),(⟨0,[]⟩:bS),(⟨0,[]⟩:bS)⟩:dS),false):dS×Bool)) (call (Z94.R (x0,x1)) fun v3=>(cond (decide (v3>=0)) (ret (((⟨0,(⟨(⟨#[]⟩:aD),0,0,[]⟩:aV),(⟨(⟨#[]⟩:aD),0,0,[]⟩:aV),(⟨0,[]⟩:bS),(⟨0,[]⟩:bS)⟩:dS),false):dS×Bool)) (call (Z98.R (x0,x1)) fun v4=>(cond (decide (v4>0)) (cq (decide ((0:Int)<=(i64.wrap (v4 - 1)))) (cq (decide ((i64.wrap (v4 - 1))<(x0.length:Int))) (call (Z95.R (aV.at x0 (toNat (i64.wrap (v4 - 1))))) fun v5=>(cq (decide ((0:Int)<=(i64.wrap (v4 - 1)))) (cq (decide ((i64.wrap (v4 - 1))<(x0.length:Int))) (call (Z97.R (x0,(aV.at x0 (toNat (i64.wrap (v4 - 1)))).aZ)) fun v6=>(cond (decide (v4<(x0.length:Int))) (m2 v4 (x0.length:Int) (call (Z95.R (aV.at x0 (toNat v4))) fun v7=>(m2 v4 (x0.length:Int) (call (Z97.R (x0,(aV.at x0 (toNat v4)).aZ)) fun v8=>ret (((⟨v4,v5,v7,v6.1,v8.1⟩:dS),true):dS×Bool))))) (ret (((⟨v4,v5,(⟨(⟨#[]⟩:aD),0,0,[]⟩:aV),v6.1,(⟨0,[]⟩:bS)⟩:dS),true):dS×Bool))))))))) (cond (decide (v4<(x0.length:Int))) (m2 v4 (x0.length:Int) (call (Z95.R (aV.at x0 (toNat v4))) fun v9=>(m2 v4 (x0.length:Int) (call (Z97.R (x0,(aV.at x0 (toNat v4)).aZ)) fun v10=>ret (((⟨v4,(⟨(⟨#[]⟩:aD),0,0,[]⟩:aV),v9,(⟨0,[]⟩:bS),v10.1⟩:dS),true):dS×Bool))))) (ret (((⟨v4,(⟨(⟨#[]⟩:aD),0,0,[]⟩:aV),(⟨(⟨#[]⟩:aD),0,0,[]⟩:aV),(⟨0,[]⟩:bS),(⟨0,[]⟩:bS)⟩:dS),true):dS×Bool)))))))))))
def md (a0:List ah)(a1:aD):bV×Bool:=(cond (!(Z79.md a0)) ((⟨0,(⟨((⟨#[]⟩:aD):aD),0,0,[]⟩:ah),(⟨((⟨#[]⟩:aD):aD),0,0,[]⟩:ah),(⟨0,[]⟩:aN),(⟨0,[]⟩:aN)⟩:bV),false) (cond (!(Z48.md a1)) ((⟨0,(⟨((⟨#[]⟩:aD):aD),0,0,[]⟩:ah),(⟨((⟨#[]⟩:aD):aD),0,0,[]⟩:ah),(⟨0,[]⟩:aN),(⟨0,[]⟩:aN)⟩:bV),false) (cond (decide ((Z94.md a0 a1)>=0)) ((⟨0,(⟨((⟨#[]⟩:aD):aD),0,0,[]⟩:ah),(⟨((⟨#[]⟩:aD):aD),0,0,[]⟩:ah),(⟨0,[]⟩:aN),(⟨0,[]⟩:aN)⟩:bV),false) (cond (decide ((Z98.md a0 a1)>0)) (cond (decide ((Z98.md a0 a1)<(a0.length:Int))) ((⟨(Z98.md a0 a1),(a0.getD (toNat (i64.wrap ((Z98.md a0 a1) - 1))) ah.zero),(a0.getD (toNat (Z98.md a0 a1)) ah.zero),(Z97.md a0 ((a0.getD (toNat (i64.wrap ((Z98.md a0 a1) - 1))) ah.zero).aZ)).1,(Z97.md a0 ((a0.getD (toNat (Z98.md a0 a1)) ah.zero).aZ)).1⟩:bV),true) ((⟨(Z98.md a0 a1),(a0.getD (toNat (i64.wrap ((Z98.md a0 a1) - 1))) ah.zero),(⟨((⟨#[]⟩:aD):aD),0,0,[]⟩:ah),(Z97.md a0 ((a0.getD (toNat (i64.wrap ((Z98.md a0 a1) - 1))) ah.zero).aZ)).1,(⟨0,[]⟩:aN)⟩:bV),true)) (cond (decide ((Z98.md a0 a1)<(a0.length:Int))) ((⟨(Z98.md a0 a1),(⟨((⟨#[]⟩:aD):aD),0,0,[]⟩:ah),(a0.getD (toNat (Z98.md a0 a1)) ah.zero),(⟨0,[]⟩:aN),(Z97.md a0 ((a0.getD (toNat (Z98.md a0 a1)) ah.zero).aZ)).1⟩:bV),true) ((⟨(Z98.md a0 a1),(⟨((⟨#[]⟩:aD):aD),0,0,[]⟩:ah),(⟨((⟨#[]⟩:aD):aD),0,0,[]⟩:ah),(⟨0,[]⟩:aN),(⟨0,[]⟩:aN)⟩:bV),true))))))
def gd (a0:List ah)(a1:aD):Prop:=(bM (2^21) (fun y:ah=>ah.Sm (2^21) y) a0)/\(a1.size<=(2^21))
def R:=RR (p2 gd) (u2 md)
def aj {a0 a1}(h:gd a0 a1):R ((a0.map ah.row),a1)=some ((bV.r (md a0 a1).1),(md a0 a1).2):=aP (a:=(a0,a1)) h
def aW:=CN [pL 61,pS] (.iQ [(true,f130),(false,[fB])]) RT.dec R
def bt (a0)(a1)(hg:gd a0 a1):F (a0.map ah.row) a1=ret ((bV.r (md a0 a1).1),(md a0 a1).2):=by
 obtain ⟨H0,H1⟩:=hg
 unfold F md
 try simp only [SS]
 refine ct (Z79.aj H0) ?_
 refine av (fun b:bV×Bool=>ret (((bV.r b.1),b.2):dS×Bool)) (fun c1=>?_) (fun c1=>?_)
 ·all_goals exact fz
 ·have dc1:=c1
  try simp only [DC] at dc1
  refine ct (Z48.aj (le_trans H1 (by decide))) ?_
  refine av (fun b:bV×Bool=>ret (((bV.r b.1),b.2):dS×Bool)) (fun c2=>?_) (fun c2=>?_)
  ·all_goals exact fz
  ·have dc2:=c2
   try simp only [DC] at dc2
   try have tc2:=Z48.tr (by simpa using c2)
   refine ct (Z94.aj H0) ?_
   have fv3_:=Z94.fa a0 a1
   refine av (fun b:bV×Bool=>ret (((bV.r b.1),b.2):dS×Bool)) (fun c3=>?_) (fun c3=>?_)
   ·all_goals exact fz
   ·have dc3:=c3
    try simp only [DC] at dc3
    refine ct (Z98.aj H0) ?_
    have fv4_:=Z98.fa a0 a1
    refine av (fun b:bV×Bool=>ret (((bV.r b.1),b.2):dS×Bool)) (fun c4=>?_) (fun c4=>?_)
    ·have dc4:=c4
     try simp only [DC] at dc4
     refine ak (have:=(H0).1;dt) ?_
     refine ak (have:=(H0).1;have:=(H0).1;dt) ?_
     refine ct (Z95.aj (bM.getD (z:=ah.zero) H0 (by have:=(H0).1;first | assumption | omega | (simp (disch:=omega) only [wi];omega) | (simp;omega)))) ?_
     try simp only [SS]
     refine ak (have:=(H0).1;dt) ?_
     refine ak (have:=(H0).1;have:=(H0).1;dt) ?_
     refine ct (Z97.aj H0) ?_
     try simp only [SS]
     refine av (fun b:bV×Bool=>ret (((bV.r b.1),b.2):dS×Bool)) (fun c5=>?_) (fun c5=>?_)
     ·have dc5:=c5
      try simp only [DC] at dc5
      refine ak (have:=(H0).1;dt) ?_
      refine ak (have:=(H0).1;have:=(H0).1;dt) ?_
      refine ct (Z95.aj (bM.getD (z:=ah.zero) H0 (by have:=(H0).1;first | assumption | omega | (simp (disch:=omega) only [wi];omega) | (simp;omega)))) ?_
      try simp only [SS]
      refine ak (have:=(H0).1;dt) ?_
      refine ak (have:=(H0).1;have:=(H0).1;dt) ?_
      refine ct (Z97.aj H0) ?_
      try simp only [SS]
      all_goals exact fz
     ·all_goals exact fz
    ·have dc4:=c4
     try simp only [DC] at dc4
     refine av (fun b:bV×Bool=>ret (((bV.r b.1),b.2):dS×Bool)) (fun c6=>?_) (fun c6=>?_)
     ·have dc6:=c6
      try simp only [DC] at dc6
      refine ak (have:=(H0).1;dt) ?_
      refine ak (have:=(H0).1;have:=(H0).1;dt) ?_
      refine ct (Z95.aj (bM.getD (z:=ah.zero) H0 (by have:=(H0).1;first | assumption | omega | (simp (disch:=omega) only [wi];omega) | (simp;omega)))) ?_
      try simp only [SS]
      refine ak (have:=(H0).1;dt) ?_
      refine ak (have:=(H0).1;have:=(H0).1;dt) ?_
      refine ct (Z97.aj H0) ?_
      try simp only [SS]
      all_goals exact fz
     ·all_goals exact fz
def af:cz 379 aW:=W2 71 F mix aF bt (.cons Z79.af (.cons Z48.af (.cons Z94.af (.cons Z98.af (.cons Z95.af (.cons Z97.af .nil)))))) Tryz.func379
def gw {a0:List ah}{a1:aD}(hg:gd a0 a1):bV.Sm (2^21) ((md a0 a1).1):=by
 unfold gd at hg;unfold md
 have ez:ah.Sm (2^21) ⟨⟨#[]⟩,0,0,[]⟩:=⟨zero_le _,bM.nil⟩
 have pz:aN.Sm (2^21) ⟨0,[]⟩:=bM.nil
 have he:∀i,ah.Sm (2^21) (a0.getD i ah.zero):=fun i=>bM.vO hg.1 ez
 have hp:∀x,aN.Sm (2^21) (Z97.md a0 x).1:=fun x=>Z97.gw hg.1
 simp only [Bool.cond_eq_ite]
 repeat' split
 all_goals (refine ⟨?_,?_,?_,?_⟩<;>first | exact he _ | exact hp _ | exact ez | exact pz)
def sz (a0:List ah)(a1:aD):bV.size (md a0 a1).1<=4*dU (fun y:ah=>ah.size y) a0:=by
 have hl:a0.length<=dU (fun y:ah=>ah.size y) a0:=Nat.le_add_right _ _
 have he:∀i,ah.size (a0.getD i ah.zero)<=dU (fun y:ah=>ah.size y) a0:=fun i=>nV (f:=fun y:ah=>ah.size y) (z:=ah.zero) rfl
 have hp:∀x,aN.size (Z97.md a0 x).1<=a0.length:=fun x=>Z97.sz a0 x
 have hd:∀(n:Int) (b a:ah) (l r:aN),bV.size ⟨n,b,a,l,r⟩=ah.size b+ah.size a+aN.size l+aN.size r:=fun _ _ _ _ _=>rfl
 have e0:ah.size ⟨⟨#[]⟩,0,0,[]⟩=0:=rfl
 have p0:aN.size ⟨0,[]⟩=0:=rfl
 have h1:=he (toNat (i64.wrap ((Z98.md a0 a1) - 1)))
 have h2:=he (toNat (Z98.md a0 a1))
 have h3:=hp ((a0.getD (toNat (i64.wrap ((Z98.md a0 a1) - 1))) ah.zero).aZ)
 have h4:=hp ((a0.getD (toNat (Z98.md a0 a1)) ah.zero).aZ)
 unfold md
 simp only [Bool.cond_eq_ite]
 repeat' split
 all_goals simp only [hd,e0,p0]
 all_goals omega
end Z99
namespace Z100
def F (x0:dQ)(x1:aD):aI:=(call (Z91.R x0) fun v1=>(cond (!v1) (ret ((⟨[],false,(⟨(⟨#[]⟩:aD),0,0,[]⟩:aV),(⟨0,[]⟩:bS),(⟨0,(⟨(⟨#[]⟩:aD),0,0,[]⟩:aV),(⟨(⟨#[]⟩:aD),0,0,[]⟩:aV),(⟨0,[]⟩:bS),(⟨0,[]⟩:bS)⟩:dS)⟩:bf):bf)) (call (Z48.R x1) fun v2=>(cond (!v2) (ret ((⟨[],false,(⟨(⟨#[]⟩:aD),0,0,[]⟩:aV),(⟨0,[]⟩:bS),(⟨0,(⟨(⟨#[]⟩:aD),0,0,[]⟩:aV),(⟨(⟨#[]⟩:aD),0,0,[]⟩:aV),(⟨0,[]⟩:bS),(⟨0,[]⟩:bS)⟩:dS)⟩:bf):bf)) (call (Z44.R x0.aU) fun v3=>(call (Z94.R (x0.bO,x1)) fun v4=>(cond (decide (v4>=0)) (m2 v4 (x0.bO.length:Int) (call (Z95.R (aV.at x0.bO (toNat v4))) fun v5=>(call (Z97.R (x0.bO,x1)) fun v6=>ret ((⟨v3,true,v5,v6.1,(⟨0,(⟨(⟨#[]⟩:aD),0,0,[]⟩:aV),(⟨(⟨#[]⟩:aD),0,0,[]⟩:aV),(⟨0,[]⟩:bS),(⟨0,[]⟩:bS)⟩:dS)⟩:bf):bf)))) (call (Z99.R (x0.bO,x1)) fun v7=>ret ((⟨v3,false,(⟨(⟨#[]⟩:aD),0,0,[]⟩:aV),(⟨0,[]⟩:bS),v7.1⟩:bf):bf)))))))))
def md (a0:aL)(a1:aD):az:=(cond (!(Z91.md a0)) (⟨[],false,(⟨((⟨#[]⟩:aD):aD),0,0,[]⟩:ah),(⟨0,[]⟩:aN),(⟨0,(⟨((⟨#[]⟩:aD):aD),0,0,[]⟩:ah),(⟨((⟨#[]⟩:aD):aD),0,0,[]⟩:ah),(⟨0,[]⟩:aN),(⟨0,[]⟩:aN)⟩:bV)⟩:az) (cond (!(Z48.md a1)) (⟨[],false,(⟨((⟨#[]⟩:aD):aD),0,0,[]⟩:ah),(⟨0,[]⟩:aN),(⟨0,(⟨((⟨#[]⟩:aD):aD),0,0,[]⟩:ah),(⟨((⟨#[]⟩:aD):aD),0,0,[]⟩:ah),(⟨0,[]⟩:aN),(⟨0,[]⟩:aN)⟩:bV)⟩:az) (cond (decide ((Z94.md a0.bO a1)>=0)) (⟨a0.aU,true,(a0.bO.getD (toNat (Z94.md a0.bO a1)) ah.zero),(Z97.md a0.bO a1).1,(⟨0,(⟨((⟨#[]⟩:aD):aD),0,0,[]⟩:ah),(⟨((⟨#[]⟩:aD):aD),0,0,[]⟩:ah),(⟨0,[]⟩:aN),(⟨0,[]⟩:aN)⟩:bV)⟩:az) (⟨a0.aU,false,(⟨((⟨#[]⟩:aD):aD),0,0,[]⟩:ah),(⟨0,[]⟩:aN),(Z99.md a0.bO a1).1⟩:az))))
def gd (a0:aL)(a1:aD):Prop:=(aL.Sm (2^21) a0)/\(a1.size<=(2^21))
def R:=RR (p2 gd) (u2 md)
def aj {a0 a1}(h:gd a0 a1):R ((aL.r a0),a1)=some (az.r (md a0 a1)):=aP (a:=(a0,a1)) h
def aW:=CN [.agg sU,pS] (.agg f132) RT.dec R
def bt (a0)(a1)(hg:gd a0 a1):F (aL.r a0) a1=ret (az.r (md a0 a1)):=by
 obtain ⟨H0,H1⟩:=hg
 unfold F md
 try simp only [SS]
 refine ct (Z91.aj H0) ?_
 refine av (fun b:az=>ret ((az.r b):bf)) (fun c1=>?_) (fun c1=>?_)
 ·all_goals exact fz
 ·have dc1:=c1
  try simp only [DC] at dc1
  refine ct (Z48.aj (le_trans H1 (by decide))) ?_
  refine av (fun b:az=>ret ((az.r b):bf)) (fun c2=>?_) (fun c2=>?_)
  ·all_goals exact fz
  ·have dc2:=c2
   try simp only [DC] at dc2
   try have tc2:=Z48.tr (by simpa using c2)
   refine ct (Z44.aj H0.1) ?_
   try simp only [SS]
   refine ct (Z94.aj H0.2) ?_
   have fv4_:=Z94.fa a0.bO a1
   refine av (fun b:az=>ret ((az.r b):bf)) (fun c3=>?_) (fun c3=>?_)
   ·have dc3:=c3
    try simp only [DC] at dc3
    refine ak dt ?_
    refine ak (have:=(H0.2).1;dt) ?_
    refine ct (Z95.aj (bM.getD (z:=ah.zero) H0.2 (by first | assumption | omega | (simp (disch:=omega) only [wi];omega) | (simp;omega)))) ?_
    try simp only [SS]
    refine ct (Z97.aj H0.2) ?_
    try simp only [SS]
    all_goals exact fz
   ·refine ct (Z99.aj ⟨H0.2,H1⟩) ?_
    try simp only [SS]
    all_goals exact fz
def af:cz 260 aW:=W2 52 F mix aF bt (.cons Z91.af (.cons Z48.af (.cons Z44.af (.cons Z94.af (.cons Z95.af (.cons Z97.af (.cons Z99.af .nil))))))) Tryz.func260
def gw {a0:aL}{a1:aD}(hg:gd a0 a1):az.Sm (2^21) (md a0 a1):=by
 unfold gd at hg;unfold md
 obtain ⟨⟨hc,hl⟩,_⟩:=hg
 have ez:ah.Sm (2^21) ⟨⟨#[]⟩,0,0,[]⟩:=⟨zero_le _,bM.nil⟩
 have pz:aN.Sm (2^21) ⟨0,[]⟩:=bM.nil
 have gz:bV.Sm (2^21) ⟨0,⟨⟨#[]⟩,0,0,[]⟩,⟨⟨#[]⟩,0,0,[]⟩,⟨0,[]⟩,⟨0,[]⟩⟩:=⟨ez,ez,pz,pz⟩
 have he:∀i,ah.Sm (2^21) (a0.bO.getD i ah.zero):=fun i=>bM.vO hl ez
 have hp:∀x,aN.Sm (2^21) (Z97.md a0.bO x).1:=fun x=>Z97.gw hl
 have hga:bV.Sm (2^21) (Z99.md a0.bO a1).1:=Z99.gw ⟨hl,by assumption⟩
 simp only [Bool.cond_eq_ite]
 repeat' split
 all_goals (refine ⟨?_,?_,?_,?_⟩<;>first | exact hc | exact bM.nil | exact he _ | exact hp _ | exact hga | exact ez | exact pz | exact gz)
def sz (a0:aL)(a1:aD):az.size (md a0 a1)<=6*aL.size a0:=by
 have hz:aL.size a0=dU (fun y:aa=>aa.size y) a0.aU+dU (fun y:ah=>ah.size y) a0.bO:=rfl
 have hl:a0.bO.length<=dU (fun y:ah=>ah.size y) a0.bO:=Nat.le_add_right _ _
 have he:∀i,ah.size (a0.bO.getD i ah.zero)<=dU (fun y:ah=>ah.size y) a0.bO:=fun i=>nV (f:=fun y:ah=>ah.size y) (z:=ah.zero) rfl
 have hp:=Z97.sz a0.bO a1
 have hg:=Z99.sz a0.bO a1
 have hd:∀(c:List aa) (f:Bool) (e:ah) (p:aN) (g:bV),az.size ⟨c,f,e,p,g⟩=dU (fun y:aa=>aa.size y) c+ah.size e+aN.size p+bV.size g:=fun _ _ _ _ _=>rfl
 have e0:ah.size ⟨⟨#[]⟩,0,0,[]⟩=0:=rfl
 have p0:aN.size ⟨0,[]⟩=0:=rfl
 have g0:bV.size ⟨0,⟨⟨#[]⟩,0,0,[]⟩,⟨⟨#[]⟩,0,0,[]⟩,⟨0,[]⟩,⟨0,[]⟩⟩=0:=rfl
 have c0:dU (fun y:aa=>aa.size y) []=0:=rfl
 have h1:=he (toNat (Z94.md a0.bO a1))
 unfold md
 simp only [Bool.cond_eq_ite]
 repeat' split
 all_goals simp only [hd,e0,p0,g0,c0]
 all_goals omega
end Z100
namespace Z101
def F (x0:cP)(x1:Int)(x2:aD):aI:=(call (Z93.R (x0,x1)) fun v1=>(cond (decide (v1<0)) (ret ((⟨[],false,(⟨(⟨#[]⟩:aD),0,0,[]⟩:aV),(⟨0,[]⟩:bS),(⟨0,(⟨(⟨#[]⟩:aD),0,0,[]⟩:aV),(⟨(⟨#[]⟩:aD),0,0,[]⟩:aV),(⟨0,[]⟩:bS),(⟨0,[]⟩:bS)⟩:dS)⟩:bf):bf)) (cond (x0.gW==4) (ret ((⟨[],false,(⟨(⟨#[]⟩:aD),0,0,[]⟩:aV),(⟨0,[]⟩:bS),(⟨0,(⟨(⟨#[]⟩:aD),0,0,[]⟩:aV),(⟨(⟨#[]⟩:aD),0,0,[]⟩:aV),(⟨0,[]⟩:bS),(⟨0,[]⟩:bS)⟩:dS)⟩:bf):bf)) (m2 v1 (x0.bJ.length:Int) (call (Z100.R ((dQ.at x0.bJ (toNat v1)),x2)) fun v2=>(cond (x0.gW==1) (ret ((⟨v2.aU,v2.cw,(⟨v2.aR.aZ,v2.aR.bI,(i64.wrap (v2.aR.bX+1)),v2.aR.bH⟩:aV),v2.eE,v2.eX⟩:bf):bf)) (cond (x0.gW==2) (cond (decide ((v2.aU.length:Int)>0)) (cq (decide ((0:Int)<=(i64.wrap ((v2.aU.length:Int) - 1)))) (cq (decide ((i64.wrap ((v2.aU.length:Int) - 1))<=(v2.aU.length:Int))) (ret ((⟨(List.take (toNat (i64.wrap ((v2.aU.length:Int) - 1))) v2.aU),v2.cw,v2.aR,v2.eE,v2.eX⟩:bf):bf)))) (ret (v2:bf))) (cond (x0.gW==3) (ret ((⟨v2.aU,false,(⟨(⟨#[]⟩:aD),0,0,[]⟩:aV),(⟨0,[]⟩:bS),(⟨0,(⟨(⟨#[]⟩:aD),0,0,[]⟩:aV),(⟨(⟨#[]⟩:aD),0,0,[]⟩:aV),(⟨0,[]⟩:bS),(⟨0,[]⟩:bS)⟩:dS)⟩:bf):bf)) (ret (v2:bf))))))))))
def pats:List gj:=[.agg [.sl 293,aB],.rd (.int .i64),.rd (.str)]
def res:RP:=.agg [.fr 123,.rd (.bool),.rd (.str),.rd (.int .i64),.rd (.int .i64),.fr 9,.rd (.int .i64),.fr 3,.rd (.int .i64),.rd (.str),.rd (.int .i64),.rd (.int .i64),.fr 9,.rd (.str),.rd (.int .i64),.rd (.int .i64),.fr 9,.rd (.int .i64),.fr 3,.rd (.int .i64),.fr 3]
def md (a0:ay)(a1:Int)(a2:aD):az:=(cond (decide ((Z93.md a0 a1)<0)) (⟨[],false,(⟨((⟨#[]⟩:aD):aD),0,0,[]⟩:ah),(⟨0,[]⟩:aN),(⟨0,(⟨((⟨#[]⟩:aD):aD),0,0,[]⟩:ah),(⟨((⟨#[]⟩:aD):aD),0,0,[]⟩:ah),(⟨0,[]⟩:aN),(⟨0,[]⟩:aN)⟩:bV)⟩:az) (cond (a0.gW==4) (⟨[],false,(⟨((⟨#[]⟩:aD):aD),0,0,[]⟩:ah),(⟨0,[]⟩:aN),(⟨0,(⟨((⟨#[]⟩:aD):aD),0,0,[]⟩:ah),(⟨((⟨#[]⟩:aD):aD),0,0,[]⟩:ah),(⟨0,[]⟩:aN),(⟨0,[]⟩:aN)⟩:bV)⟩:az) (cond (a0.gW==1) (⟨(Z100.md (a0.bJ.getD (toNat (Z93.md a0 a1)) aL.zero) a2).aU,(Z100.md (a0.bJ.getD (toNat (Z93.md a0 a1)) aL.zero) a2).cw,(⟨(Z100.md (a0.bJ.getD (toNat (Z93.md a0 a1)) aL.zero) a2).aR.aZ,(Z100.md (a0.bJ.getD (toNat (Z93.md a0 a1)) aL.zero) a2).aR.bI,(i64.wrap ((Z100.md (a0.bJ.getD (toNat (Z93.md a0 a1)) aL.zero) a2).aR.bX+1)),(Z100.md (a0.bJ.getD (toNat (Z93.md a0 a1)) aL.zero) a2).aR.bH⟩:ah),(Z100.md (a0.bJ.getD (toNat (Z93.md a0 a1)) aL.zero) a2).eE,(Z100.md (a0.bJ.getD (toNat (Z93.md a0 a1)) aL.zero) a2).eX⟩:az) (cond (a0.gW==2) (cond (decide (((Z100.md (a0.bJ.getD (toNat (Z93.md a0 a1)) aL.zero) a2).aU.length:Int)>0)) (⟨(List.take (toNat (i64.wrap (((Z100.md (a0.bJ.getD (toNat (Z93.md a0 a1)) aL.zero) a2).aU.length:Int) - 1))) (Z100.md (a0.bJ.getD (toNat (Z93.md a0 a1)) aL.zero) a2).aU),(Z100.md (a0.bJ.getD (toNat (Z93.md a0 a1)) aL.zero) a2).cw,(Z100.md (a0.bJ.getD (toNat (Z93.md a0 a1)) aL.zero) a2).aR,(Z100.md (a0.bJ.getD (toNat (Z93.md a0 a1)) aL.zero) a2).eE,(Z100.md (a0.bJ.getD (toNat (Z93.md a0 a1)) aL.zero) a2).eX⟩:az) (Z100.md (a0.bJ.getD (toNat (Z93.md a0 a1)) aL.zero) a2)) (cond (a0.gW==3) (⟨(Z100.md (a0.bJ.getD (toNat (Z93.md a0 a1)) aL.zero) a2).aU,false,(⟨((⟨#[]⟩:aD):aD),0,0,[]⟩:ah),(⟨0,[]⟩:aN),(⟨0,(⟨((⟨#[]⟩:aD):aD),0,0,[]⟩:ah),(⟨((⟨#[]⟩:aD):aD),0,0,[]⟩:ah),(⟨0,[]⟩:aN),(⟨0,[]⟩:aN)⟩:bV)⟩:az) (Z100.md (a0.bJ.getD (toNat (Z93.md a0 a1)) aL.zero) a2))))))
def gd (a0:ay)(a1:Int)(a2:aD):Prop:=(ay.Sm (2^21) a0)/\(a2.size<=(2^21))
def acc (ls:List L):cP×Int×aD:=((cP.dec ls),((aA 2 ls).headD .hole).toInt,((aA 3 ls).headD .hole).toStr)
def R:(cP×Int×aD)->Option bf:=RR (p3 gd) (u3 md)
def aj {a0 a1 a2}(h:gd a0 a1 a2):R ((ay.r a0),a1,a2)=some (az.r (md a0 a1 a2)):=aP (a:=(a0,a1,a2)) h
def aW:ga:=CN pats res acc R
def bt (a0:ay)(a1:Int)(a2:aD)(hg:gd a0 a1 a2):F (ay.r a0) a1 a2=ret ((az.r (md a0 a1 a2)):bf):=by
 obtain ⟨H0,H2⟩:=hg
 unfold F md
 try simp only [SS]
 refine ct (Z93.aj H0) ?_
 have fv1_:=Z93.fa a0 a1
 refine av (fun b:az=>ret ((az.r b):bf)) (fun c1=>?_) (fun c1=>?_)
 ·all_goals exact fz
 ·have dc1:=c1
  try simp only [DC] at dc1
  refine av (fun b:az=>ret ((az.r b):bf)) (fun c2=>?_) (fun c2=>?_)
  ·all_goals exact fz
  ·have dc2:=c2
   try simp only [DC] at dc2
   refine ak (have:=(H0).1;dt) ?_
   refine ak (have:=(H0).1;have:=(H0).1;dt) ?_
   refine ct (Z100.aj ⟨(bM.getD (z:=aL.zero) H0 (by have:=(H0).1;first | assumption | omega | (simp (disch:=omega) only [wi];omega) | (simp;omega))),H2⟩) ?_
   try simp only [SS]
   refine av (fun b:az=>ret ((az.r b):bf)) (fun c3=>?_) (fun c3=>?_)
   ·all_goals exact fz
   ·have dc3:=c3
    try simp only [DC] at dc3
    refine av (fun b:az=>ret ((az.r b):bf)) (fun c4=>?_) (fun c4=>?_)
    ·have dc4:=c4
     try simp only [DC] at dc4
     refine av (fun b:az=>ret ((az.r b):bf)) (fun c5=>?_) (fun c5=>?_)
     ·have dc5:=c5
      try simp only [DC] at dc5
      refine ak (have:=((Z100.gw (a0:=a0.bJ.getD (toNat (Z93.md a0 a1)) aL.zero) (a1:=a2) ⟨(bM.getD (z:=aL.zero) H0 (by have:=(H0).1;first | assumption | omega | (simp (disch:=omega) only [wi];omega) | (simp;omega))),H2⟩).1).1;have:=(H0).1;dt) ?_
      refine ak (have:=((Z100.gw (a0:=a0.bJ.getD (toNat (Z93.md a0 a1)) aL.zero) (a1:=a2) ⟨(bM.getD (z:=aL.zero) H0 (by have:=(H0).1;first | assumption | omega | (simp (disch:=omega) only [wi];omega) | (simp;omega))),H2⟩).1).1;have:=(H0).1;dt) ?_
      all_goals exact fz
     ·all_goals exact fz
    ·refine av (fun b:az=>ret ((az.r b):bf)) (fun c6=>?_) (fun c6=>?_)
     ·all_goals exact fz
     ·all_goals exact fz
def af:cz 343 aW:=VT (live:=fun _=>[]) (nt:=57) (run:=fun _ x=>F x.1 x.2.1 x.2.2) mix aF (.cons Z93.af (.cons Z100.af .nil)) .nil Tryz.func343 (by kernel_rfl) (fun _ _=>by kernel_rfl) (fun _ a _ _ hg=>⟨0,bt a.1 a.2.1 a.2.2 hg⟩)
def gw {a0:ay}{a1:Int}{a2:aD}(hg:gd a0 a1 a2):az.Sm (2^21) (md a0 a1 a2):=by
 unfold gd at hg;unfold md
 obtain ⟨hs,hl⟩:=hg
 have ez:ah.Sm (2^21) ⟨⟨#[]⟩,0,0,[]⟩:=⟨zero_le _,bM.nil⟩
 have pz:aN.Sm (2^21) ⟨0,[]⟩:=bM.nil
 have gz:bV.Sm (2^21) ⟨0,⟨⟨#[]⟩,0,0,[]⟩,⟨⟨#[]⟩,0,0,[]⟩,⟨0,[]⟩,⟨0,[]⟩⟩:=⟨ez,ez,pz,pz⟩
 have zz:aL.Sm (2^21) aL.zero:=⟨bM.nil,bM.nil⟩
 have ha:∀i,az.Sm (2^21) (Z100.md (a0.bJ.getD i aL.zero) a2):=fun i=>Z100.gw ⟨bM.vO hs zz,hl⟩
 have ht:∀i n,bM (2^21) (fun y:aa=>aa.Sm (2^21) y) (List.take n (List.drop 0 (Z100.md (a0.bJ.getD i aL.zero) a2).aU)):=fun i n=>⟨le_trans (by simp;omega) (ha i).1.1,fun x hx=>(ha i).1.2 x (List.mem_of_mem_take hx)⟩
 have ht2:∀i n,bM (2^21) (fun y:aa=>aa.Sm (2^21) y) (List.take n (Z100.md (a0.bJ.getD i aL.zero) a2).aU):=fun i n=>⟨le_trans (by simp;omega) (ha i).1.1,fun x hx=>(ha i).1.2 x (List.mem_of_mem_take hx)⟩
 simp only [Bool.cond_eq_ite]
 repeat' split
 all_goals first | exact ha _ | (refine ⟨?_,?_,?_,?_⟩<;>first | exact ht _ _ | exact ht2 _ _ | exact bM.nil | exact (ha _).1 | exact (ha _).2.1 | exact (ha _).2.2.1 | exact (ha _).2.2.2 | exact ez | exact pz | exact gz)
def vA {α:Type}(f:α->Nat):∀(n:Nat) (xs:List α),dU f (xs.take n)<=dU f xs
 | 0,xs=>by simp [dU]
 | n+1,[]=>by simp [dU]
 | n+1,x::xs=>by
  have:=vA f n xs
  unfold dU at this ⊢
  simp only [List.take_succ_cons,List.length_cons,List.map_cons,List.sum_cons]
  omega
def sz (a0:ay)(a1:Int)(a2:aD):az.size (md a0 a1 a2)<=6*ay.size a0:=by
 have hz:aL.size (a0.bJ.getD (toNat (Z93.md a0 a1)) aL.zero)<=ay.size a0:=nV (f:=fun y:aL=>aL.size y) (xs:=a0.bJ) (z:=aL.zero) rfl
 have hA:=Z100.sz (a0.bJ.getD (toNat (Z93.md a0 a1)) aL.zero) a2
 have hd:∀(c:List aa) (f:Bool) (e:ah) (p:aN) (g:bV),az.size ⟨c,f,e,p,g⟩=dU (fun y:aa=>aa.size y) c+ah.size e+aN.size p+bV.size g:=fun _ _ _ _ _=>rfl
 have he:∀(l:aD) (k v:Int) (p:List aD),ah.size ⟨l,k,v,p⟩=l.size+dU (fun y:aD=>y.size) p:=fun _ _ _ _=>rfl
 unfold md
 revert hA
 generalize Z100.md (a0.bJ.getD (toNat (Z93.md a0 a1)) aL.zero) a2=A
 intro hA
 have hA2:az.size A=dU (fun y:aa=>aa.size y) A.aU+ah.size A.aR+aN.size A.eE+bV.size A.eX:=rfl
 have hE2:ah.size A.aR=A.aR.aZ.size+dU (fun y:aD=>y.size) A.aR.bH:=rfl
 have ht:=fun n=>vA (fun y:aa=>aa.size y) n A.aU
 have e0:ah.size ⟨⟨#[]⟩,0,0,[]⟩=0:=rfl
 have p0:aN.size ⟨0,[]⟩=0:=rfl
 have g0:bV.size ⟨0,⟨⟨#[]⟩,0,0,[]⟩,⟨⟨#[]⟩,0,0,[]⟩,⟨0,[]⟩,⟨0,[]⟩⟩=0:=rfl
 have c0:dU (fun y:aa=>aa.size y) []=0:=rfl
 have ht1:=ht (toNat (i64.wrap ((A.aU.length:Int) - 1)))
 simp only [Bool.cond_eq_ite]
 repeat' split
 all_goals first
  | omega
  | (simp only [hd,e0,p0,g0,c0];omega)
  | (simp only [hd,he];omega)
end Z101
namespace Z102
inductive Pt where
 | p0 (a:aE) (b:Int) (c:aD) (d:Int) (e:aE)
def pid:Pt->Nat
 | .p0 ..=>3
def ck:Pt->List V
 | .p0 a b c d e=>[.sl none 227 a,.int .i64 b,.str c,.own 0,.int .i64 d]
def cj:Pt->List aY
 | .p0 a b c d e=>[.row 132 e]
def step (J:Pt->aI):Pt->aI
 | .p0 a b c d e=>(cond (decide (d<(a.length:Int))) (cond (decide (d<4)) (m2 d (a.length:Int) (call (Z101.R ((cP.at a (toNat d)),b,c)) fun v1=>(cq (ff (((e.length:Int)+1)*304)) (J (.p0 a b c (i64.wrap (d+1)) (e++[(bf.enc v1)])))))) (ret (e:aE))) (ret (e:aE)))
def start (J:Pt->aI)(x0:aE)(x1:Int)(x2:aD):aI:=J (.p0 x0 x1 x2 0 [])
def live:Nat->Live:=fun i=>match i with | 3=>[(0,none),(1,none),(2,none),(7,some 132),(8,none)] | _=>[]
def md (a0:List ay)(a1:Int)(a2:aD):List az:=(dW (S:=List az) (β:=List az) (fun (i1:Nat) (y1:ay) (s3:List az)=>(cond (decide ((i1:Int)<4)) (.inl (s3++[(Z101.md y1 a1 a2)])) (.inr s3))) (fun (s3:List az)=>s3) 0 a0 [])
def gd (a0:List ay)(a1:Int)(a2:aD):Prop:=(bM (2^21) (fun y:ay=>ay.Sm (2^21) y) a0)/\(a2.size<=(2^21))
def R:=RR (p3 gd) (u3 md)
def aj {a0 a1 a2}(h:gd a0 a1 a2):R ((a0.map ay.row),a1,a2)=some ((md a0 a1 a2).map az.row):=aP (a:=(a0,a1,a2)) h
def aW:=CN [pL 227,pI,pS] (oL 132) RT.dec R
def bt (a0)(a1)(a2)(hg:gd a0 a1 a2):∃n,start (iter step n) (a0.map ay.row) a1 a2=ret ((md a0 a1 a2).map az.row):=by
 obtain ⟨H0,H2⟩:=hg
 unfold start md
 try simp only [SS]
 have Bh2:a0.length<=maxLen:=(by
   have:=(H0).1
   try simp only [maxLen] at *
   omega)
 refine ex_eq (out:=(fun b:List az=>ret ((b.map az.row):aE))) (cX (z:=ay.zero)) ?_
 refine dP (p:=Pt.p0 (a0.map ay.row) a1 a2 0 ([].map az.row)) fz ?_
 refine cm (pt:=fun (i1:Nat) (s3:List az)=>Pt.p0 (a0.map ay.row) a1 a2 (i1:Int) (s3.map az.row)) (s:=([]:List az)) (out:=(fun b:List az=>ret ((b.map az.row):aE))) (fun (i1:Nat) (s3:List az)=>s3.length<=([]:List Int).length+1*i1) (fun J i1 s3 h2 hih2=>?_) (fun s3 hih2=>?_) (by simp)
 ·simp only [step,SS]
  have gr_:=hih2
  try simp only [LN] at gr_
  have bb_:=Bh2
  simp only [maxLen] at bb_
  have:=(H0).1
  refine bB.yes (by apply decide_eq_true;omega) ?_
  refine bB.bif (fun c4=>?_) (fun c4=>?_)
  ·have dc4:=c4
   try simp only [DC] at dc4
   refine bB.yes aJ ?_
   refine bB.yes (aO h2) ?_
   refine cr (Z101.aj ⟨(bM.getD (z:=ay.zero) H0 h2),H2⟩) ?_
   try simp only [SS]
   refine bB.yes lm ?_
   refine bB.inl (by
     have g_:=hih2
     try simp only [LN] at g_ ⊢
     first | omega | (simp;done) | (simp;omega)) ?_
   rw [aH h2 Bh2]
   all_goals exact fz
  ·refine bB.inr ?_
   all_goals exact fz
 ·simp only [step,SS]
  have gr_:=hih2
  try simp only [LN] at gr_
  have:=(H0).1
  refine dF (by apply decide_eq_false;omega) ?_
  refine ⟨0,?_⟩
  all_goals exact fz
def af:cz 210 aW:=L3 31 pid ck cj live step start mix aF bt (.cons Z101.af .nil) Tryz.func210
def qd (a0:List ay)(a1:Int)(a2:aD):md a0 a1 a2=(a0.take 4).map (fun y=>Z101.md y a1 a2):=by
 have key:∀(xs:List ay) (i:Nat) (s:List az),i<=4->dW (S:=List az) (β:=List az) (fun (i1:Nat) (y1:ay) (s3:List az)=>(cond (decide ((i1:Int)<4)) (.inl (s3++[(Z101.md y1 a1 a2)])) (.inr s3))) (fun (s3:List az)=>s3) i xs s=s++(xs.take (4 - i)).map (fun y=>Z101.md y a1 a2):=by
  intro xs
  induction xs with
  | nil=>intro i s _;simp [dW]
  | cons x xs ih=>
   intro i s hi
   unfold dW
   by_cases h:i<4
   ·rw [decide_eq_true (by omega)]
    simp only [bh]
    rw [ih (i+1) _ (by omega),show 4 - i=(4 - (i+1))+1 by omega]
    simp
   ·rw [decide_eq_false (by omega),show 4 - i=0 by omega]
    simp
 exact (key a0 0 [] (by omega)).trans (by simp)
def gw {a0:List ay}{a1:Int}{a2:aD}(hg:gd a0 a1 a2):bM (2^21) (fun y:az=>az.Sm (2^21) y) (md a0 a1 a2):=by
 unfold gd at hg
 rw [qd]
 exact (bM.take hg.1).map fun x hx=>Z101.gw ⟨hx,hg.2⟩
def BM (a0:List ay)(a1:Int)(a2:aD):(md a0 a1 a2).length<=4:=by
 rw [qd,List.length_map]
 exact le_trans (List.length_take_le _ _) (Nat.le_refl _)
def sz (a0:List ay)(a1:Int)(a2:aD):dU (fun y:az=>az.size y) (md a0 a1 a2)<=6*dU (fun y:ay=>ay.size y) a0:=by
 rw [qd]
 have key:∀xs:List ay,dU (fun y:az=>az.size y) (xs.map (fun y=>Z101.md y a1 a2))<=6*dU (fun y:ay=>ay.size y) xs:=by
  intro xs
  induction xs with
  | nil=>exact zero_le _
  | cons x xs ih=>
   have h:=Z101.sz x a1 a2
   unfold dU at ih ⊢
   simp only [List.map_cons,List.length_cons,List.sum_cons,List.length_map] at ih ⊢
   omega
 exact le_trans (key _) (Nat.mul_le_mul_left _ (Z101.vA _ _ _))
end Z102
namespace Z103
inductive Pt where
 | p0 (a b:Int) (c:bw)
def pid:Pt->Nat
 | .p0 ..=>2
def ck:Pt->List V
 | .p0 a b c=>[.int .i64 a,.dz 0 0,.int .i64 b]
def cj:Pt->List aY
 | .p0 a b c=>[.box [.sl none 92 c.aK,.sl none 280 c.bn]]
def step (J:Pt->aI):Pt->aI
 | .p0 a b c=>(cond (decide (b<(c.aK.length:Int))) (m2 b (c.aK.length:Int) (cond (decide (((oG c.aK (toNat b)).length:Int)>0)) (m2 b (c.aK.length:Int) (cq (decide ((0:Int)<((oG c.aK (toNat b)).length:Int))) (cond ((aT.at (oG c.aK (toNat b)) 0).aq.bC==a) (ret (b:Int)) (J (.p0 a (i64.wrap (b+1)) c))))) (J (.p0 a (i64.wrap (b+1)) c)))) (ret ((-1):Int)))
def start (J:Pt->aI)(x0:bw)(x1:Int):aI:=J (.p0 x1 0 x0)
def live:Nat->Live:=fun i=>match i with | 2=>[(1,none),(2,none),(5,none)] | _=>[]
def md (a0:au)(a1:Int):Int:=(dW (S:=Unit) (β:=Int) (fun (i1:Nat) (y1:List aa) (s3:Unit)=>(cond (decide ((y1.length:Int)>0)) (cond (((y1.getD 0 aa.zero).aq).bC==a1) (.inr ((i1:Int):Int)) (.inl ())) (.inl ()))) (fun (s3:Unit)=>((-1):Int)) 0 a0.aK ())
def gd (a0:au)(a1:Int):Prop:=(au.Sm (2^21) a0)
def R:=RR (p2 gd) (u2 md)
def aj {a0 a1}(h:gd a0 a1):R ((au.r a0),a1)=some (md a0 a1):=aP (a:=(a0,a1)) h
def aW:=CN [.agg rT,pI] oI RT.dec R
def bt (a0)(a1)(hg:gd a0 a1):∃n,start (iter step n) (au.r a0) a1=ret (md a0 a1):=by
 unfold gd at hg
 have H0:=hg
 unfold start md
 try simp only [SS]
 have Bh2:a0.aK.length<=maxLen:=(by
   have:=(H0.1).1
   try simp only [maxLen] at *
   omega)
 refine ex_eq (out:=ret) (cX (z:=[])) ?_
 refine dP (p:=Pt.p0 a1 0 (au.r a0)) fz ?_
 refine cm (pt:=fun (i1:Nat) (s3:Unit)=>Pt.p0 a1 (i1:Int) (au.r a0)) (s:=(():Unit)) (out:=ret) (fun _ _=>True) (fun J i1 s3 h2 hih2=>?_) (fun s3 hih2=>?_) trivial
 ·simp only [step,SS]
  have bb_:=Bh2
  simp only [maxLen] at bb_
  have:=(H0.1).1
  refine bB.yes (by apply decide_eq_true;omega) ?_
  refine bB.yes aJ ?_
  refine bB.yes (aO h2) ?_
  refine bB.bif (fun c4=>?_) (fun c4=>?_)
  ·have dc4:=c4
   try simp only [DC] at dc4
   refine bB.yes aJ ?_
   refine bB.yes (aO h2) ?_
   refine bB.yes (have:=((bM.getD (z:=[]) H0.1 h2)).1;dt) ?_
   refine bB.bif (fun c5=>?_) (fun c5=>?_)
   ·refine bB.inr ?_
    all_goals exact fz
   ·refine bB.inl trivial ?_
    rw [aH h2 Bh2]
    all_goals exact fz
  ·refine bB.inl trivial ?_
   rw [aH h2 Bh2]
   all_goals exact fz
 ·simp only [step,SS]
  have:=(H0.1).1
  refine dF (by apply decide_eq_false;omega) ?_
  refine ⟨0,?_⟩
  all_goals exact fz
def af:cz 245 aW:=L2 34 pid ck cj live step start mix aF bt .nil Tryz.func245
def fa (a0:au)(a1:Int):-1<=md a0 a1/\md a0 a1<(a0.aK.length:Int):=by
 unfold md
 refine fK ?_ _ _
 all_goals
  intro i x s b h
  revert h
  simp only [Bool.cond_eq_ite]
  repeat' split
  all_goals (intro h;first | (cases h;rfl) | cases h)
end Z103
namespace Z104
def F (x0 x1:cg):aI:=(call (Z58.R x0) fun v1=>(call (Z58.R x1) fun v2=>(call (Z67.R (v1,v2)) fun v3=>(cond v3 (ret ((x0.bG==x1.bG):Bool)) bz))))
def md (a0 a1:aG):Bool:=(cond (Z67.md (Z58.md a0) (Z58.md a1)) ((a0.bG==a1.bG):Bool) (false:Bool))
def gd (a0 a1:aG):Prop:=(aG.Sm (2^21) a0)/\(aG.Sm (2^21) a1)
def R:=RR (p2 gd) (u2 md)
def aj {a0 a1}(h:gd a0 a1):R ((aG.r a0),(aG.r a1))=some (md a0 a1):=aP (a:=(a0,a1)) h
def aW:=CN [.agg gi,.agg gi] oB RT.dec R
def bt (a0)(a1)(hg:gd a0 a1):F (aG.r a0) (aG.r a1)=ret (md a0 a1):=by
 obtain ⟨H0,H1⟩:=hg
 unfold F md
 try simp only [SS]
 refine ct (Z58.aj H0) ?_
 try simp only [SS]
 refine ct (Z58.aj H1) ?_
 try simp only [SS]
 refine ct (Z67.aj ⟨⟨(have:=Z58.len a0;have:=(H0.1).1;have:=(H0.2.1).1;have:=(H0.2.2).1;om),fun _ _=>trivial⟩,⟨(have:=Z58.len a1;have:=(H1.1).1;have:=(H1.2.1).1;have:=(H1.2.2).1;om),fun _ _=>trivial⟩⟩) ?_
 refine av ret (fun c1=>?_) (fun _=>rfl)
 all_goals exact fz
def af:cz 368 aW:=W2 17 F mix aF bt (.cons Z58.af (.cons Z67.af .nil)) Tryz.func368
def md_eq (a0 a1:aG):md a0 a1=eg a0 a1:=by
 unfold md
 simp only [Z67.md_eq,bool_beq]
 rw [Bool.eq_iff_iff]
 constructor
 ·intro h
  cases he:eg (Z58.md a0) (Z58.md a1)<;>rw [he] at h
  ·cases h
  ·exact dy.2 (Z58.inj (dy.1 he))
 ·intro h
  rw [dy] at h
  rw [h,fN,fN];rfl
end Z104
namespace Z105
inductive Pt where
 | p0 (a b:aE) (c:Int)
def pid:Pt->Nat
 | .p0 ..=>4
def ck:Pt->List V
 | .p0 a b c=>[.sl none 123 a,.sl none 123 b,.int .i64 c]
def cj:Pt->List aY
 | .p0 a b c=>[]
def step (J:Pt->aI):Pt->aI
 | .p0 a b c=>(cond (decide (c<(a.length:Int))) (m2 c (a.length:Int) (m2 c (b.length:Int) (call (Z104.R ((aT.at a (toNat c)).aq,(aT.at b (toNat c)).aq)) fun v1=>(cond (!v1) bz (J (.p0 a b (i64.wrap (c+1)))))))) (ret (true:Bool)))
def start (J:Pt->aI)(x0 x1:aE):aI:=(cond (decide ((x0.length:Int)>(x1.length:Int))) bz (J (.p0 x0 x1 0)))
def live:Nat->Live:=fun i=>match i with | 4=>[(0,none),(1,none),(5,none)] | _=>[]
def md (a0 a1:List aa):Bool:=(bif (decide ((a0.length:Int)>(a1.length:Int))) then (false:Bool) else (eD (S:=Unit) (β:=Bool) (fun (i2:Nat) (s4:Unit)=>(cond (!(Z104.md ((a0.getD i2 aa.zero).aq) ((a1.getD i2 aa.zero).aq))) (.inr (false:Bool)) (.inl ()))) (fun (s4:Unit)=>(true:Bool)) a0.length 0 ()))
def gd (a0 a1:List aa):Prop:=(bM (2^21) (fun y:aa=>aa.Sm (2^21) y) a0)/\(bM (2^21) (fun y:aa=>aa.Sm (2^21) y) a1)
def R:=RR (p2 gd) (u2 md)
def aj {a0 a1}(h:gd a0 a1):R ((a0.map aa.row),(a1.map aa.row))=some (md a0 a1):=aP (a:=(a0,a1)) h
def aW:=CN [pL 123,pL 123] oB RT.dec R
def bt (a0)(a1)(hg:gd a0 a1):∃n,start (iter step n) (a0.map aa.row) (a1.map aa.row)=ret (md a0 a1):=by
 obtain ⟨H0,H1⟩:=hg
 unfold start md
 try simp only [SS]
 refine hU ret (fun _=>⟨0,rfl⟩) (fun c1=>?_)
 have dc1:=c1
 try simp only [DC] at dc1
 have Bh3:a0.length<=maxLen:=(by
   have:=(H0).1
   try simp only [maxLen] at *
   omega)
 refine dP (p:=Pt.p0 (a0.map aa.row) (a1.map aa.row) 0) fz ?_
 refine cm (pt:=fun (i2:Nat) (s4:Unit)=>Pt.p0 (a0.map aa.row) (a1.map aa.row) (i2:Int)) (s:=(():Unit)) (out:=ret) (fun _ _=>True) (fun J i2 s4 h3 hih3=>?_) (fun s4 hih3=>?_) trivial
 ·simp only [step,SS]
  have bb_:=Bh3
  simp only [maxLen] at bb_
  have:=(H0).1
  refine bB.yes (by apply decide_eq_true;omega) ?_
  refine bB.yes aJ ?_
  refine bB.yes (aO h3) ?_
  refine bB.yes aJ ?_
  refine bB.yes (have:=(H1).1;dt) ?_
  refine cr (Z104.aj ⟨(bM.getD (z:=aa.zero) H0 h3).1,(bM.getD (z:=aa.zero) H1 (by first | assumption | omega | (simp (disch:=omega) only [wi];omega) | (simp;omega))).1⟩) ?_
  refine bB.bif (fun _=>bB.inr rfl) (fun c5=>?_)
  refine bB.inl trivial ?_
  rw [aH h3 Bh3]
  all_goals exact fz
 ·simp only [step,SS]
  have:=(H0).1
  refine dF (by apply decide_eq_false;omega) ?_
  refine ⟨0,?_⟩
  all_goals exact fz
def af:cz 302 aW:=L2 29 pid ck cj live step start mix aF bt (.cons Z104.af .nil) Tryz.func302
end Z105
namespace Z106
def F (x0:bw)(x1:aE):aI:=(call (Z75.R x1) fun v1=>(cond (!v1) (ret (6:Int)) (cq (decide ((0:Int)<(x1.length:Int))) (call (Z103.R (x0,(aT.at x1 0).aq.bC)) fun v2=>(cond (decide (v2<0)) (ret (1:Int)) (m2 v2 (x0.aK.length:Int) (call (Z105.R ((oG x0.aK (toNat v2)),x1)) fun v3=>(m2 v2 (x0.aK.length:Int) (call (Z105.R (x1,(oG x0.aK (toNat v2)))) fun v4=>(cond v3 (cond v4 (ret (2:Int)) (cond v3 (ret (3:Int)) (cond v4 (ret (4:Int)) (ret (5:Int))))) (cond v3 (ret (3:Int)) (cond v4 (ret (4:Int)) (ret (5:Int))))))))))))))
def md (a0:au)(a1:List aa):Int:=(cond (!(Z75.md a1)) (6:Int) (cond (decide ((Z103.md a0 (((a1.getD 0 aa.zero).aq).bC))<0)) (1:Int) (cond (Z105.md (a0.aK.getD (toNat (Z103.md a0 (((a1.getD 0 aa.zero).aq).bC))) []) a1) (cond (Z105.md a1 (a0.aK.getD (toNat (Z103.md a0 (((a1.getD 0 aa.zero).aq).bC))) [])) (2:Int) (cond (Z105.md (a0.aK.getD (toNat (Z103.md a0 (((a1.getD 0 aa.zero).aq).bC))) []) a1) (3:Int) (cond (Z105.md a1 (a0.aK.getD (toNat (Z103.md a0 (((a1.getD 0 aa.zero).aq).bC))) [])) (4:Int) (5:Int)))) (cond (Z105.md (a0.aK.getD (toNat (Z103.md a0 (((a1.getD 0 aa.zero).aq).bC))) []) a1) (3:Int) (cond (Z105.md a1 (a0.aK.getD (toNat (Z103.md a0 (((a1.getD 0 aa.zero).aq).bC))) [])) (4:Int) (5:Int))))))
def gd (a0:au)(a1:List aa):Prop:=(au.Sm (2^21) a0)/\(bM (2^21) (fun y:aa=>aa.Sm (2^21) y) a1)
def R:=RR (p2 gd) (u2 md)
def aj {a0 a1}(h:gd a0 a1):R ((au.r a0),(a1.map aa.row))=some (md a0 a1):=aP (a:=(a0,a1)) h
def aW:=CN [.agg rT,pL 123] oI RT.dec R
def bt (a0)(a1)(hg:gd a0 a1):F (au.r a0) (a1.map aa.row)=ret (md a0 a1):=by
 obtain ⟨H0,H1⟩:=hg
 unfold F md
 try simp only [SS]
 refine ct (Z75.aj H1) ?_
 refine av ret (fun _=>rfl) (fun c1=>?_)
 have dc1:=c1
 try simp only [DC] at dc1
 try have tc1:=Z75.tr (by simpa using c1)
 refine ak (have:=(H1).1;dt) ?_
 refine ct (Z103.aj H0) ?_
 have fv2_:=Z103.fa a0 (((a1.getD 0 aa.zero).aq).bC)
 refine av ret (fun _=>rfl) (fun c2=>?_)
 have dc2:=c2
 try simp only [DC] at dc2
 refine ak dt ?_
 refine ak (have:=(H0.1).1;dt) ?_
 refine ct (Z105.aj ⟨(bM.getD (z:=[]) H0.1 (by first | assumption | omega | (simp (disch:=omega) only [wi];omega) | (simp;omega))),H1⟩) ?_
 refine ak dt ?_
 refine ak (have:=(H0.1).1;dt) ?_
 refine ct (Z105.aj ⟨H1,(bM.getD (z:=[]) H0.1 (by first | assumption | omega | (simp (disch:=omega) only [wi];omega) | (simp;omega)))⟩) ?_
 refine av ret (fun c3=>?_) (fun c3=>?_)
 ·refine av ret (fun _=>rfl) (fun c4=>?_)
  refine av ret (fun _=>rfl) (fun c5=>?_)
  refine av ret (fun _=>rfl) (fun _=>rfl)
 ·refine av ret (fun _=>rfl) (fun c7=>?_)
  refine av ret (fun _=>rfl) (fun _=>rfl)
def af:cz 124 aW:=W2 43 F mix aF bt (.cons Z75.af (.cons Z103.af (.cons Z105.af .nil))) Tryz.func124
def fa (a0:au)(a1:List aa):(md a0 a1=3->1<=a1.length/\0<=Z103.md a0 (a1.getD 0 aa.zero).aq.bC)/\(md a0 a1=5->1<=a1.length/\0<=Z103.md a0 (a1.getD 0 aa.zero).aq.bC):=by
 unfold md
 cases h:Z75.md a1
 ·exact ⟨fun h=>by simp at h,fun h=>by simp at h⟩
 ·have t:=Z75.tr h
  cases hf:decide (Z103.md a0 ((a1.getD 0 aa.zero).aq.bC)<0)
  ·have:=of_decide_eq_false hf
   exact ⟨fun _=>⟨t.1,by omega⟩,fun _=>⟨t.1,by omega⟩⟩
  ·exact ⟨fun h=>by simp at h,fun h=>by simp at h⟩
end Z106
end Go.DM
end
