/- What the functions compute that the law reaches, and that the law returns true. Conditions: none. -/
import Derived.Test.YtknikjmcpjaggaaGreatResolveAllTy
import Derived.Test.YtknikjmcpjaggaaGreatProg
import Derived.Lib.AppendZerosOnto
import Derived.Lib.Bytealg
import Derived.Laws.Externs
import Derived.Lib.Walk
import Derived.Lib.Hide
import Derived.Lib.Strings
set_option linter.all false
set_option maxRecDepth 100000
noncomputable section
namespace Go.DM
open Go.Proofs
open Go.IntKind (i64)
open Int (toNat)
open Nat (le_trans zero_le)
abbrev aC:=K.int .i64
abbrev bh:=ret (false:Bool)
abbrev eF:=ret (true:Bool)
abbrev k7:List K:=[aC,aC,.bool,.int .u8]
abbrev f7:List Lf:=[fI,fI,fB,.rd (.int .u8)]
abbrev k8:List K:=[aC,aC,.bool,.int .u8]
abbrev f8:List Lf:=[fI,fI,fB,.rd (.int .u8)]
abbrev k13:List K:=[.str,.int .u64]
abbrev f13:List Lf:=[fS,.rd (.int .u64)]
abbrev k14:List K:=[.str,.int .u64]
abbrev f14:List Lf:=[fS,.rd (.int .u64)]
abbrev k24:List K:=[.sl 338,.sl 347]
abbrev f24:List Lf:=[.fr 338,.fr 347]
abbrev k25:List K:=[.sl 338,.sl 347]
abbrev f25:List Lf:=[.fr 338,.fr 347]
abbrev Cw:List K:=[.sl 92,.sl 280]
abbrev f36:List Lf:=[.fr 92,.fr 280]
abbrev rU:List K:=[.sl 92,.sl 280]
abbrev f37:List Lf:=[.fr 92,.fr 280]
abbrev CF:List K:=[.sl 364]
abbrev f57:List Lf:=[.fr 364]
abbrev Cu:List K:=[.sl 364]
abbrev f58:List Lf:=[.fr 364]
abbrev CA:List K:=[.str,aC,aC,.sl 9]
abbrev f60:List Lf:=[fS,fI,fI,.fr 9]
abbrev sn:List K:=[.str,aC,aC,.sl 9]
abbrev f61:List Lf:=[fS,fI,fI,.fr 9]
abbrev CB:List K:=[.sl 92,.sl 280,aC,.str,aC,aC,.sl 9,.sl 3,aC]
abbrev f63:List Lf:=[.fr 92,.fr 280,fI,fS,fI,fI,.fr 9,.fr 3,fI]
abbrev BL:List K:=[.sl 92,.sl 280,aC,.str,aC,aC,.sl 9,.sl 3,aC]
abbrev f64:List Lf:=[.fr 92,.fr 280,fI,fS,fI,fI,.fr 9,.fr 3,fI]
abbrev CJ:List K:=[.sl 145]
abbrev f67:List Lf:=[.fr 145]
abbrev CI:List K:=[.sl 145]
abbrev f68:List Lf:=[.fr 145]
abbrev Cv:List K:=[.sl 92,.sl 280,aC,.str,aC,aC,.sl 9,.sl 3,aC,.sl 145]
abbrev f84:List Lf:=[.fr 92,.fr 280,fI,fS,fI,fI,.fr 9,.fr 3,fI,.fr 145]
abbrev CG:List K:=[.sl 92,.sl 280,aC,.str,aC,aC,.sl 9,.sl 3,aC,.sl 145]
abbrev f85:List Lf:=[.fr 92,.fr 280,fI,fS,fI,fI,.fr 9,.fr 3,fI,.fr 145]
abbrev CE:List K:=[.sl 3,aC]
abbrev f97:List Lf:=[.fr 3,fI]
abbrev pZ:List K:=[.sl 3,aC]
abbrev f98:List Lf:=[.fr 3,fI]
abbrev B9:List K:=[aC,aC,aC,aC,aC,aC,aC,aC,.sl 3,aC,.sl 3,aC,aC,.sl 3,aC,.bool]
abbrev f101:List Lf:=[fI,fI,fI,fI,fI,fI,fI,fI,.fr 3,fI,.fr 3,fI,fI,.fr 3,fI,fB]
abbrev gi:List K:=[aC,aC,aC,aC,aC,aC,aC,aC,.sl 3,aC,.sl 3,aC,aC,.sl 3,aC,.bool]
abbrev f102:List Lf:=[fI,fI,fI,fI,fI,fI,fI,fI,.fr 3,fI,.fr 3,fI,fI,.fr 3,fI,fB]
abbrev BX:List K:=[aC,.sl 3,aC,aC]
abbrev f107:List Lf:=[fI,.fr 3,fI,fI]
abbrev Cf:List K:=[aC,.sl 3,aC,aC]
abbrev f108:List Lf:=[fI,.fr 3,fI,fI]
abbrev B6:List K:=[aC,aC,aC,aC,aC,aC,aC,aC,.sl 3,aC,.sl 3,aC,aC,.sl 3,aC,.bool,.sl 428]
abbrev f122:List Lf:=[fI,fI,fI,fI,fI,fI,fI,fI,.fr 3,fI,.fr 3,fI,fI,.fr 3,fI,fB,.fr 428]
abbrev kT:List K:=[aC,aC,aC,aC,aC,aC,aC,aC,.sl 3,aC,.sl 3,aC,aC,.sl 3,aC,.bool,.sl 428]
abbrev f123:List Lf:=[fI,fI,fI,fI,fI,fI,fI,fI,.fr 3,fI,.fr 3,fI,fI,.fr 3,fI,fB,.fr 428]
abbrev Cg:List K:=[aC,.sl 3]
abbrev f127:List Lf:=[fI,.fr 3]
abbrev rE:List K:=[aC,.sl 3]
abbrev f128:List Lf:=[fI,.fr 3]
abbrev BZ:List K:=[aC,.str,aC,aC,.sl 9,.str,aC,aC,.sl 9,aC,.sl 3,aC,.sl 3]
abbrev f129:List Lf:=[fI,fS,fI,fI,.fr 9,fS,fI,fI,.fr 9,fI,.fr 3,fI,.fr 3]
abbrev vW:List K:=[aC,.str,aC,aC,.sl 9,.str,aC,aC,.sl 9,aC,.sl 3,aC,.sl 3]
abbrev f130:List Lf:=[fI,fS,fI,fI,.fr 9,fS,fI,fI,.fr 9,fI,.fr 3,fI,.fr 3]
abbrev Cp:List K:=[.sl 123,.bool,.str,aC,aC,.sl 9,aC,.sl 3,aC,.str,aC,aC,.sl 9,.str,aC,aC,.sl 9,aC,.sl 3,aC,.sl 3]
abbrev f131:List Lf:=[.fr 123,fB,fS,fI,fI,.fr 9,fI,.fr 3,fI,fS,fI,fI,.fr 9,fS,fI,fI,.fr 9,fI,.fr 3,fI,.fr 3]
abbrev xL:List K:=[.sl 123,.bool,.str,aC,aC,.sl 9,aC,.sl 3,aC,.str,aC,aC,.sl 9,.str,aC,aC,.sl 9,aC,.sl 3,aC,.sl 3]
abbrev f132:List Lf:=[.fr 123,fB,fS,fI,fI,.fr 9,fI,.fr 3,fI,fS,fI,fI,.fr 9,fS,fI,fI,.fr 9,fI,.fr 3,fI,.fr 3]
abbrev BK:List K:=[aC,.str,.sl 123,.bool,.str,aC,aC,.sl 9,aC,.sl 3,aC,.str,aC,aC,.sl 9,.str,aC,aC,.sl 9,aC,.sl 3,aC,.sl 3]
abbrev f144:List Lf:=[fI,fS,.fr 123,fB,fS,fI,fI,.fr 9,fI,.fr 3,fI,fS,fI,fI,.fr 9,fS,fI,fI,.fr 9,fI,.fr 3,fI,.fr 3]
abbrev B4:List K:=[aC,.str,.sl 123,.bool,.str,aC,aC,.sl 9,aC,.sl 3,aC,.str,aC,aC,.sl 9,.str,aC,aC,.sl 9,aC,.sl 3,aC,.sl 3]
abbrev f145:List Lf:=[fI,fS,.fr 123,fB,fS,fI,fI,.fr 9,fI,.fr 3,fI,fS,fI,fI,.fr 9,fS,fI,fI,.fr 9,fI,.fr 3,fI,.fr 3]
abbrev B0:List K:=[aC,.str,aC,aC,.sl 9,.sl 61]
abbrev f150:List Lf:=[fI,fS,fI,fI,.fr 9,.fr 61]
abbrev Cb:List K:=[aC,.str,aC,aC,.sl 9,.sl 61]
abbrev f151:List Lf:=[fI,fS,fI,fI,.fr 9,.fr 61]
abbrev BT:List K:=[.sl 92,.sl 280,.bool,.str,aC,aC,.sl 9,.bool,.sl 3]
abbrev f168:List Lf:=[.fr 92,.fr 280,fB,fS,fI,fI,.fr 9,fB,.fr 3]
abbrev Av:List K:=[.sl 92,.sl 280,.bool,.str,aC,aC,.sl 9,.bool,.sl 3]
abbrev f169:List Lf:=[.fr 92,.fr 280,fB,fS,fI,fI,.fr 9,fB,.fr 3]
abbrev B7:List K:=[.str,aC]
abbrev f206:List Lf:=[fS,fI]
abbrev Ch:List K:=[.str,aC]
abbrev f207:List Lf:=[fS,fI]
abbrev BV:List K:=[.sl 423,aC]
abbrev f217:List Lf:=[.fr 423,fI]
abbrev AA:List K:=[.sl 423,aC]
abbrev f218:List Lf:=[.fr 423,fI]
abbrev Ar:List K:=[.str,aC]
abbrev f220:List Lf:=[fS,fI]
abbrev AX:List K:=[.str,aC]
abbrev f222:List Lf:=[fS,fI]
abbrev Co:List K:=[.sl 293,aC]
abbrev f226:List Lf:=[.fr 293,fI]
abbrev ze:List K:=[.sl 293,aC]
abbrev f227:List Lf:=[.fr 293,fI]
abbrev Cm:List K:=[.str,aC]
abbrev f245:List Lf:=[fS,fI]
abbrev Ce:List K:=[aC,aC,aC,aC,aC,aC,aC,aC,.sl 3,aC,.sl 3,aC,aC,.sl 3,aC,.bool,.sl 428,aC,aC,aC,aC,aC,aC,aC,aC,.sl 3,aC,.sl 3,aC,aC,.sl 3,aC,.bool,.sl 428,aC,aC,aC,aC,aC,aC,aC,aC,.sl 3,aC,.sl 3,aC,aC,.sl 3,aC,.bool,.sl 428]
abbrev f279:List Lf:=[fI,fI,fI,fI,fI,fI,fI,fI,.fr 3,fI,.fr 3,fI,fI,.fr 3,fI,fB,.fr 428,fI,fI,fI,fI,fI,fI,fI,fI,.fr 3,fI,.fr 3,fI,fI,.fr 3,fI,fB,.fr 428,fI,fI,fI,fI,fI,fI,fI,fI,.fr 3,fI,.fr 3,fI,fI,.fr 3,fI,fB,.fr 428]
abbrev sV:List K:=[aC,aC,aC,aC,aC,aC,aC,aC,.sl 3,aC,.sl 3,aC,aC,.sl 3,aC,.bool,.sl 428,aC,aC,aC,aC,aC,aC,aC,aC,.sl 3,aC,.sl 3,aC,aC,.sl 3,aC,.bool,.sl 428,aC,aC,aC,aC,aC,aC,aC,aC,.sl 3,aC,.sl 3,aC,aC,.sl 3,aC,.bool,.sl 428]
abbrev f280:List Lf:=[fI,fI,fI,fI,fI,fI,fI,fI,.fr 3,fI,.fr 3,fI,fI,.fr 3,fI,fB,.fr 428,fI,fI,fI,fI,fI,fI,fI,fI,.fr 3,fI,.fr 3,fI,fI,.fr 3,fI,fB,.fr 428,fI,fI,fI,fI,fI,fI,fI,fI,.fr 3,fI,.fr 3,fI,fI,.fr 3,fI,fB,.fr 428]
abbrev B2:List K:=[.sl 123,.sl 61]
abbrev f292:List Lf:=[.fr 123,.fr 61]
abbrev tA:List K:=[.sl 123,.sl 61]
abbrev f293:List Lf:=[.fr 123,.fr 61]
abbrev BF:List K:=[.sl 9,.str,aC,aC,.sl 9]
abbrev f317:List Lf:=[.fr 9,fS,fI,fI,.fr 9]
abbrev BR:List K:=[.sl 9,.str,aC,aC,.sl 9]
abbrev f318:List Lf:=[.fr 9,fS,fI,fI,.fr 9]
abbrev AK:List K:=[.sl 3,aC]
abbrev f340:List Lf:=[.fr 3,fI]
abbrev B8:List K:=[aC,aC,aC,aC,aC,aC,aC,aC,.sl 3,aC,.sl 3,aC,aC,.sl 3,aC,.bool]
abbrev f341:List Lf:=[fI,fI,fI,fI,fI,fI,fI,fI,.fr 3,fI,.fr 3,fI,fI,.fr 3,fI,fB]
abbrev A4:List K:=[aC,aC,aC,aC,aC,aC,aC,aC,.sl 3,aC,.sl 3,aC,aC,.sl 3,aC,.bool]
abbrev f342:List Lf:=[fI,fI,fI,fI,fI,fI,fI,fI,.fr 3,fI,.fr 3,fI,fI,.fr 3,fI,fB]
abbrev BI:List K:=[aC,aC,aC,aC,aC,aC,aC,aC,.sl 3,aC,.sl 3,aC,aC,.sl 3,aC,.bool,.sl 516]
abbrev f344:List Lf:=[fI,fI,fI,fI,fI,fI,fI,fI,.fr 3,fI,.fr 3,fI,fI,.fr 3,fI,fB,.fr 516]
abbrev AE:List K:=[aC,aC,aC,aC,aC,aC,aC,aC,.sl 3,aC,.sl 3,aC,aC,.sl 3,aC,.bool,.sl 516]
abbrev f345:List Lf:=[fI,fI,fI,fI,fI,fI,fI,fI,.fr 3,fI,.fr 3,fI,fI,.fr 3,fI,fB,.fr 516]
abbrev BO:List K:=[aC,aC,aC,aC,aC,aC,aC,aC,.sl 3,aC,.sl 3,aC,aC,.sl 3,aC,.bool,.sl 516,aC,aC,aC,aC,aC,aC,aC,aC,.sl 3,aC,.sl 3,aC,aC,.sl 3,aC,.bool,.sl 516,aC,aC,aC,aC,aC,aC,aC,aC,.sl 3,aC,.sl 3,aC,aC,.sl 3,aC,.bool,.sl 516]
abbrev f346:List Lf:=[fI,fI,fI,fI,fI,fI,fI,fI,.fr 3,fI,.fr 3,fI,fI,.fr 3,fI,fB,.fr 516,fI,fI,fI,fI,fI,fI,fI,fI,.fr 3,fI,.fr 3,fI,fI,.fr 3,fI,fB,.fr 516,fI,fI,fI,fI,fI,fI,fI,fI,.fr 3,fI,.fr 3,fI,fI,.fr 3,fI,fB,.fr 516]
abbrev AW:List K:=[aC,aC,aC,aC,aC,aC,aC,aC,.sl 3,aC,.sl 3,aC,aC,.sl 3,aC,.bool,.sl 516,aC,aC,aC,aC,aC,aC,aC,aC,.sl 3,aC,.sl 3,aC,aC,.sl 3,aC,.bool,.sl 516,aC,aC,aC,aC,aC,aC,aC,aC,.sl 3,aC,.sl 3,aC,aC,.sl 3,aC,.bool,.sl 516]
abbrev f347:List Lf:=[fI,fI,fI,fI,fI,fI,fI,fI,.fr 3,fI,.fr 3,fI,fI,.fr 3,fI,fB,.fr 516,fI,fI,fI,fI,fI,fI,fI,fI,.fr 3,fI,.fr 3,fI,fI,.fr 3,fI,fB,.fr 516,fI,fI,fI,fI,fI,fI,fI,fI,.fr 3,fI,.fr 3,fI,fI,.fr 3,fI,fB,.fr 516]
abbrev Az:List K:=[.str,aC,aC,.sl 9]
abbrev f357:List Lf:=[fS,fI,fI,.fr 9]
abbrev BN:List K:=[aC,.sl 3]
abbrev f358:List Lf:=[fI,.fr 3]
abbrev Cj:List K:=[aC,.str,aC,aC,.sl 9,.str,aC,aC,.sl 9,aC,.sl 3,aC,.sl 3]
abbrev f359:List Lf:=[fI,fS,fI,fI,.fr 9,fS,fI,fI,.fr 9,fI,.fr 3,fI,.fr 3]
abbrev Cd:List K:=[aC,.str,aC,aC,.sl 9,.str,aC,aC,.sl 9,aC,.sl 3,aC,.sl 3]
abbrev f360:List Lf:=[fI,fS,fI,fI,.fr 9,fS,fI,fI,.fr 9,fI,.fr 3,fI,.fr 3]
abbrev BC:List K:=[.sl 345,.bool,.str,aC,aC,.sl 9,aC,.sl 3,aC,.str,aC,aC,.sl 9,.str,aC,aC,.sl 9,aC,.sl 3,aC,.sl 3]
abbrev f361:List Lf:=[.fr 345,fB,fS,fI,fI,.fr 9,fI,.fr 3,fI,fS,fI,fI,.fr 9,fS,fI,fI,.fr 9,fI,.fr 3,fI,.fr 3]
abbrev Ci:List K:=[.sl 345,.bool,.str,aC,aC,.sl 9,aC,.sl 3,aC,.str,aC,aC,.sl 9,.str,aC,aC,.sl 9,aC,.sl 3,aC,.sl 3]
abbrev f362:List Lf:=[.fr 345,fB,fS,fI,fI,.fr 9,fI,.fr 3,fI,fS,fI,fI,.fr 9,fS,fI,fI,.fr 9,fI,.fr 3,fI,.fr 3]
abbrev BS:List K:=[aC,.str,.sl 345,.bool,.str,aC,aC,.sl 9,aC,.sl 3,aC,.str,aC,aC,.sl 9,.str,aC,aC,.sl 9,aC,.sl 3,aC,.sl 3]
abbrev f363:List Lf:=[fI,fS,.fr 345,fB,fS,fI,fI,.fr 9,fI,.fr 3,fI,fS,fI,fI,.fr 9,fS,fI,fI,.fr 9,fI,.fr 3,fI,.fr 3]
abbrev B1:List K:=[aC,.str,.sl 345,.bool,.str,aC,aC,.sl 9,aC,.sl 3,aC,.str,aC,aC,.sl 9,.str,aC,aC,.sl 9,aC,.sl 3,aC,.sl 3]
abbrev f364:List Lf:=[fI,fS,.fr 345,fB,fS,fI,fI,.fr 9,fI,.fr 3,fI,fS,fI,fI,.fr 9,fS,fI,fI,.fr 9,fI,.fr 3,fI,.fr 3]
abbrev BP:List K:=[.sl 5,aC,aC]
abbrev f375:List Lf:=[.fr 5,fI,fI]
abbrev Cq:List K:=[.sl 5,aC,aC]
abbrev f376:List Lf:=[.fr 5,fI,fI]
abbrev BW:List K:=[.sl 345,.sl 357]
abbrev f422:List Lf:=[.fr 345,.fr 357]
abbrev AV:List K:=[.sl 345,.sl 357]
abbrev f423:List Lf:=[.fr 345,.fr 357]
abbrev BU:List K:=[aC,aC]
abbrev f427:List Lf:=[fI,fI]
abbrev yL:List K:=[aC,aC]
abbrev f428:List Lf:=[fI,fI]
abbrev BG:List K:=[.int .i32,.int .u32]
abbrev f487:List Lf:=[.rd (.int .i32),.rd (.int .u32)]
abbrev Ca:List K:=[.int .i32,.int .u32]
abbrev f488:List Lf:=[.rd (.int .i32),.rd (.int .u32)]
abbrev A8:List K:=[aC,aC]
abbrev f516:List Lf:=[fI,fI]
def kB:List (Nat×TI):=[
 (2,⟨[aC],false,[],8,false⟩),
 (3,⟨[aC],false,[],8,false⟩),
 (4,⟨[.bool],false,[],1,false⟩),
 (5,⟨[.int .u8],false,[],1,false⟩),
 (6,⟨[.int .u8],false,[],1,false⟩),
 (7,⟨k7,true,[(0,2),(1,3),(2,4),(3,6)],24,false⟩),
 (8,⟨k8,true,[(0,2),(1,3),(2,4),(3,6)],24,false⟩),
 (9,⟨[.str],false,[],16,false⟩),
 (10,⟨[.str],false,[],16,false⟩),
 (11,⟨[.str],false,[],16,false⟩),
 (12,⟨[.int .u64],false,[],8,false⟩),
 (13,⟨k13,true,[(0,9),(1,12)],24,false⟩),
 (14,⟨k14,true,[(0,9),(1,12)],24,false⟩),
 (21,⟨[.int .i32],false,[],4,false⟩),
 (22,⟨[.sl 338],false,[],24,false⟩),
 (23,⟨[.sl 347],false,[],24,false⟩),
 (24,⟨k24,true,[(0,22),(1,23)],48,false⟩),
 (25,⟨k25,true,[(0,22),(1,23)],48,false⟩),
 (26,⟨[.sl 218],false,[],24,false⟩),
 (27,⟨[.sl 220],false,[],24,false⟩),
 (28,⟨[.sl 9],false,[],24,false⟩),
 (33,⟨[.sl 64],false,[],24,false⟩),
 (34,⟨[.sl 92],false,[],24,false⟩),
 (35,⟨[.sl 280],false,[],24,false⟩),
 (36,⟨Cw,true,[(0,34),(1,35)],48,false⟩),
 (37,⟨rU,true,[(0,34),(1,35)],48,false⟩),
 (41,⟨[.sl 227],false,[],24,false⟩),
 (43,⟨[.sl 222],false,[],24,false⟩),
 (56,⟨[.sl 364],false,[],24,false⟩),
 (57,⟨CF,true,[(0,56)],24,false⟩),
 (58,⟨Cu,true,[(0,56)],24,false⟩),
 (60,⟨CA,true,[(0,9),(1,3),(2,3),(3,28)],56,false⟩),
 (61,⟨sn,true,[(0,9),(1,3),(2,3),(3,28)],56,false⟩),
 (62,⟨[.sl 3],false,[],24,false⟩),
 (63,⟨CB,true,[(0,37),(2,3),(3,61),(7,62),(8,3)],144,false⟩),
 (64,⟨BL,true,[(0,37),(2,3),(3,61),(7,62),(8,3)],144,false⟩),
 (66,⟨[.sl 145],false,[],24,false⟩),
 (67,⟨CJ,true,[(0,66)],24,false⟩),
 (68,⟨CI,true,[(0,66)],24,false⟩),
 (75,⟨[.sl 245],false,[],24,false⟩),
 (77,⟨[.sl 207],false,[],24,false⟩),
 (84,⟨Cv,true,[(0,64),(9,68)],168,false⟩),
 (85,⟨CG,true,[(0,64),(9,68)],168,false⟩),
 (90,⟨[.sl 5],false,[],24,false⟩),
 (92,⟨[.sl 123],false,[],24,false⟩),
 (95,⟨[.sl 108],false,[],24,false⟩),
 (97,⟨CE,true,[(0,62),(1,3)],32,false⟩),
 (98,⟨pZ,true,[(0,62),(1,3)],32,false⟩),
 (101,⟨B9,true,[(0,3),(1,3),(2,3),(3,3),(4,3),(5,3),(6,3),(7,3),(8,98),(10,98),(12,3),(13,98),(15,4)],176,false⟩),
 (102,⟨gi,true,[(0,3),(1,3),(2,3),(3,3),(4,3),(5,3),(6,3),(7,3),(8,98),(10,98),(12,3),(13,98),(15,4)],176,false⟩),
 (107,⟨BX,true,[(0,3),(1,98),(3,3)],48,false⟩),
 (108,⟨Cf,true,[(0,3),(1,98),(3,3)],48,false⟩),
 (121,⟨[.sl 428],false,[],24,false⟩),
 (122,⟨B6,true,[(0,102),(16,121)],200,false⟩),
 (123,⟨kT,true,[(0,102),(16,121)],200,false⟩),
 (127,⟨Cg,true,[(0,3),(1,62)],32,false⟩),
 (128,⟨rE,true,[(0,3),(1,62)],32,false⟩),
 (129,⟨BZ,true,[(0,3),(1,61),(5,61),(9,128),(11,128)],184,false⟩),
 (130,⟨vW,true,[(0,3),(1,61),(5,61),(9,128),(11,128)],184,false⟩),
 (131,⟨Cp,true,[(0,92),(1,4),(2,61),(6,128),(8,130)],304,false⟩),
 (132,⟨xL,true,[(0,92),(1,4),(2,61),(6,128),(8,130)],304,false⟩),
 (144,⟨BK,true,[(0,3),(1,9),(2,132)],328,false⟩),
 (145,⟨B4,true,[(0,3),(1,9),(2,132)],328,false⟩),
 (146,⟨[.sl 318],false,[],24,false⟩),
 (149,⟨[.sl 61],false,[],24,false⟩),
 (150,⟨B0,true,[(0,3),(1,61),(5,149)],88,false⟩),
 (151,⟨Cb,true,[(0,3),(1,61),(5,149)],88,false⟩),
 (165,⟨[.sl 132],false,[],24,false⟩),
 (168,⟨BT,true,[(0,37),(2,4),(3,61),(7,4),(8,62)],144,false⟩),
 (169,⟨Av,true,[(0,37),(2,4),(3,61),(7,4),(8,62)],144,false⟩),
 (186,⟨[.sl 62],false,[],24,false⟩),
 (206,⟨B7,true,[(0,9),(1,3)],24,false⟩),
 (207,⟨Ch,true,[(0,9),(1,3)],24,true⟩),
 (216,⟨[.sl 423],false,[],24,false⟩),
 (217,⟨BV,true,[(0,216),(1,3)],32,false⟩),
 (218,⟨AA,true,[(0,216),(1,3)],32,false⟩),
 (220,⟨Ar,true,[(0,9),(1,3)],24,true⟩),
 (222,⟨AX,true,[(0,9),(1,3)],24,true⟩),
 (225,⟨[.sl 293],false,[],24,false⟩),
 (226,⟨Co,true,[(0,225),(1,3)],32,false⟩),
 (227,⟨ze,true,[(0,225),(1,3)],32,false⟩),
 (245,⟨Cm,true,[(0,9),(1,3)],24,true⟩),
 (279,⟨Ce,true,[(0,123),(17,123),(34,123)],600,false⟩),
 (280,⟨sV,true,[(0,123),(17,123),(34,123)],600,false⟩),
 (292,⟨B2,true,[(0,92),(1,149)],48,false⟩),
 (293,⟨tA,true,[(0,92),(1,149)],48,false⟩),
 (317,⟨BF,true,[(0,28),(1,61)],80,false⟩),
 (318,⟨BR,true,[(0,28),(1,61)],80,false⟩),
 (338,⟨[.sl 345],false,[],24,false⟩),
 (340,⟨AK,true,[(0,62),(1,3)],32,false⟩),
 (341,⟨B8,true,[(0,3),(1,3),(2,3),(3,3),(4,3),(5,3),(6,3),(7,3),(8,340),(10,340),(12,3),(13,340),(15,4)],176,false⟩),
 (342,⟨A4,true,[(0,3),(1,3),(2,3),(3,3),(4,3),(5,3),(6,3),(7,3),(8,340),(10,340),(12,3),(13,340),(15,4)],176,false⟩),
 (343,⟨[.sl 516],false,[],24,false⟩),
 (344,⟨BI,true,[(0,342),(16,343)],200,false⟩),
 (345,⟨AE,true,[(0,342),(16,343)],200,false⟩),
 (346,⟨BO,true,[(0,345),(17,345),(34,345)],600,false⟩),
 (347,⟨AW,true,[(0,345),(17,345),(34,345)],600,false⟩),
 (357,⟨Az,true,[(0,9),(1,3),(2,3),(3,28)],56,false⟩),
 (358,⟨BN,true,[(0,3),(1,62)],32,false⟩),
 (359,⟨Cj,true,[(0,3),(1,357),(5,357),(9,358),(11,358)],184,false⟩),
 (360,⟨Cd,true,[(0,3),(1,357),(5,357),(9,358),(11,358)],184,false⟩),
 (361,⟨BC,true,[(0,338),(1,4),(2,357),(6,358),(8,360)],304,false⟩),
 (362,⟨Ci,true,[(0,338),(1,4),(2,357),(6,358),(8,360)],304,false⟩),
 (363,⟨BS,true,[(0,3),(1,9),(2,362)],328,false⟩),
 (364,⟨B1,true,[(0,3),(1,9),(2,362)],328,false⟩),
 (375,⟨BP,true,[(0,90),(1,3),(2,3)],40,false⟩),
 (376,⟨Cq,true,[(0,90),(1,3),(2,3)],40,false⟩),
 (421,⟨[.sl 357],false,[],24,false⟩),
 (422,⟨BW,true,[(0,338),(1,421)],48,false⟩),
 (423,⟨AV,true,[(0,338),(1,421)],48,false⟩),
 (427,⟨BU,true,[(0,3),(1,3)],16,false⟩),
 (428,⟨yL,true,[(0,3),(1,3)],16,true⟩),
 (445,⟨[.int .u64],false,[],8,false⟩),
 (484,⟨[.int .u32],false,[],4,false⟩),
 (487,⟨BG,true,[(0,21),(1,484)],8,false⟩),
 (488,⟨Ca,true,[(0,21),(1,484)],8,false⟩),
 (516,⟨A8,true,[(0,3),(1,3)],16,true⟩),
 (579,⟨[.int .u8],false,[],1,false⟩),
 (580,⟨[.int .u8],false,[],1,false⟩),
 (583,⟨[.int .i32],false,[],4,false⟩),
 (584,⟨[.int .i32],false,[],4,false⟩),
 (600,⟨[.sl 5],false,[],24,false⟩)]
abbrev Ev:Env:=dM kB
def aF:eV Tryz.prog kB=true:=by kernel_rfl
def mix:Tryz.prog.follows .mixedOrders=true:=by kernel_rfl
abbrev cG:=Valid Tryz.prog Ev
namespace Z0
def F (x0:aD)(x1:Int):aK:=(cond (decide ((i64.wrap (x1 - (x0.length:Int)))<0)) (ret ((-1):Int)) (ret ((i64.wrap (x1 - (x0.length:Int))):Int)))
def md (a0:List Int)(a1:Int):Int:=jd (dP (fun y:Int=>0) a0) a1
def gd (a0:List Int)(a1:Int):Prop:=(bO maxLen (fun y:Int=>True) a0)/\0<=a1/\a1<=1048576
def R:=RR (p2 gd) (u2 md)
def aq {a0 a1}(h:gd a0 a1):R ((a0.map bu),a1)=some (md a0 a1):=aR (a:=(a0,a1)) h
def aW:=CN [pL 3,pI] oI RT.dec R
def bB (a0)(a1)(hg:gd a0 a1):F (a0.map bu) a1=ret (md a0 a1):=by
 obtain ⟨hs,g0,g1⟩:=hg
 unfold F md
 rw [List.length_map,lW g0 g1 hs.1]
 have e:dP (fun y:Int=>0) a0=a0.length:=by
  unfold dP
  have :(a0.map (fun y:Int=>0)).sum=0:=qt (fun _=>rfl) a0
  omega
 rw [e]
 by_cases hc:a1<((a0.length:Nat):Int)
 ·rw [cQ hc,decide_eq_true (by omega)];rfl
 ·rw [dB hc,decide_eq_false (by omega)];rfl
def af:cG 555 aW:=W2 12 F mix aF bB .nil Tryz.func555
end Z0
namespace Z1
def F (x0:bF)(x1:Int):aK:=(call (Z0.R (x0.aX,x1)) fun v1=>(cond (decide (v1<0)) (ret ((-1):Int)) (ret (v1:Int))))
def md (a0:aO)(a1:Int):Int:=jd (aO.size a0) a1
def gd (a0:aO)(a1:Int):Prop:=(aO.Sm maxLen a0)/\0<=a1/\a1<=1048576
def R:=RR (p2 gd) (u2 md)
def aq {a0 a1}(h:gd a0 a1):R ((aO.r a0),a1)=some (md a0 a1):=aR (a:=(a0,a1)) h
def aW:=CN [.agg AK,pI] oI RT.dec R
def bB (a0)(a1)(hg:gd a0 a1):F (aO.r a0) a1=ret (md a0 a1):=by
 obtain ⟨hs,g0,g1⟩:=hg
 unfold md
 show (call (Z0.R ((a0.aX.map bu),a1)) fun v1=>(cond (decide (v1<0)) (ret ((-1):Int)) (ret (v1:Int))))=_
 rw [call_eq (Z0.aq (a1:=a1) ⟨hs,by omega,by omega⟩)]
 unfold Z0.md
 by_cases c0:a1<((dP (fun y:Int=>0) a0.aX:Nat):Int)
 ·rw [cQ c0];rw [show jd (aO.size a0) a1=-1 from cQ (by unfold aO.size;omega)];try rfl
 rw [dB c0,dz (by omega),bA]
 rw [show jd (aO.size a0) a1=a1 - ((dP (fun y:Int=>0) a0.aX:Nat):Int) from by rw [dB (by unfold aO.size;omega)];unfold aO.size;omega]
def af:cG 550 aW:=W2 12 F mix aF bB (.cons Z0.af .nil) Tryz.func550
end Z1
namespace Z2
def F (x0:ck)(x1:Int):aK:=(call (Z1.R (x0.bQ,x1)) fun v1=>(cond (decide (v1<0)) (ret ((-1):Int)) (call (Z1.R (x0.bE,v1)) fun v2=>(cond (decide (v2<0)) (ret ((-1):Int)) (call (Z1.R (x0.bC,v2)) fun v3=>(cond (decide (v3<0)) (ret ((-1):Int)) (ret (v3:Int))))))))
def md (a0:aG)(a1:Int):Int:=jd (aG.size a0) a1
def gd (a0:aG)(a1:Int):Prop:=(aG.Sm maxLen a0)/\0<=a1/\a1<=1048576
def R:=RR (p2 gd) (u2 md)
def aq {a0 a1}(h:gd a0 a1):R ((aG.r a0),a1)=some (md a0 a1):=aR (a:=(a0,a1)) h
def aW:=CN [.agg A4,pI] oI RT.dec R
def bB (a0)(a1)(hg:gd a0 a1):F (aG.r a0) a1=ret (md a0 a1):=by
 obtain ⟨hs,g0,g1⟩:=hg
 unfold md
 show (call (Z1.R ((aO.r a0.bQ),a1)) fun v1=>(bif (decide (v1<0)) then ret ((-1):Int) else (call (Z1.R ((aO.r a0.bE),v1)) fun v2=>(bif (decide (v2<0)) then ret ((-1):Int) else (call (Z1.R ((aO.r a0.bC),v2)) fun v3=>(cond (decide (v3<0)) (ret ((-1):Int)) (ret (v3:Int))))))))=_
 rw [call_eq (Z1.aq (a1:=a1) ⟨hs.1,by omega,by omega⟩)]
 unfold Z1.md
 by_cases c0:a1<((aO.size a0.bQ:Nat):Int)
 ·rw [cQ c0];rw [show jd (aG.size a0) a1=-1 from cQ (by unfold aG.size;omega)];try rfl
 rw [dB c0,dz (by omega),bA]
 rw [call_eq (Z1.aq (a1:=(a1 - ((aO.size a0.bQ:Nat):Int))) ⟨hs.2.1,by omega,by omega⟩)]
 unfold Z1.md
 by_cases c1:(a1 - ((aO.size a0.bQ:Nat):Int))<((aO.size a0.bE:Nat):Int)
 ·rw [cQ c1];rw [show jd (aG.size a0) a1=-1 from cQ (by unfold aG.size;omega)];try rfl
 rw [dB c1,dz (by omega),bA]
 rw [call_eq (Z1.aq (a1:=(a1 - ((aO.size a0.bQ:Nat):Int) - ((aO.size a0.bE:Nat):Int))) ⟨hs.2.2,by omega,by omega⟩)]
 unfold Z1.md
 by_cases c2:(a1 - ((aO.size a0.bQ:Nat):Int) - ((aO.size a0.bE:Nat):Int))<((aO.size a0.bC:Nat):Int)
 ·rw [cQ c2];rw [show jd (aG.size a0) a1=-1 from cQ (by unfold aG.size;omega)];try rfl
 rw [dB c2,dz (by omega),bA]
 rw [show jd (aG.size a0) a1=a1 - ((aO.size a0.bQ:Nat):Int) - ((aO.size a0.bE:Nat):Int) - ((aO.size a0.bC:Nat):Int) from by rw [dB (by unfold aG.size;omega)];unfold aG.size;omega]
def af:cG 486 aW:=W2 24 F mix aF bB (.cons Z1.af .nil) Tryz.func486
end Z2
namespace Z3
def F (x0:aD)(x1:Int):aK:=(cond (decide ((i64.wrap (x1 - (x0.length:Int)))<0)) (ret ((-1):Int)) (ret ((i64.wrap (x1 - (x0.length:Int))):Int)))
def md (a0:List bw)(a1:Int):Int:=jd (dP (fun y:bw=>bw.size y) a0) a1
def gd (a0:List bw)(a1:Int):Prop:=(bO maxLen (fun y:bw=>bw.Sm maxLen y) a0)/\0<=a1/\a1<=1048576
def R:=RR (p2 gd) (u2 md)
def aq {a0 a1}(h:gd a0 a1):R ((a0.map bw.row),a1)=some (md a0 a1):=aR (a:=(a0,a1)) h
def aW:=CN [pL 516,pI] oI RT.dec R
def bB (a0)(a1)(hg:gd a0 a1):F (a0.map bw.row) a1=ret (md a0 a1):=by
 obtain ⟨hs,g0,g1⟩:=hg
 unfold F md
 rw [List.length_map,lW g0 g1 hs.1]
 have e:dP (fun y:bw=>bw.size y) a0=a0.length:=by
  unfold dP
  have :(a0.map (fun y:bw=>bw.size y)).sum=0:=qt (fun _=>rfl) a0
  omega
 rw [e]
 by_cases hc:a1<((a0.length:Nat):Int)
 ·rw [cQ hc,decide_eq_true (by omega)];rfl
 ·rw [dB hc,decide_eq_false (by omega)];rfl
def af:cG 487 aW:=W2 12 F mix aF bB .nil Tryz.func487
end Z3
namespace Z4
def F (x0:aT)(x1:Int):aK:=(call (Z2.R (x0.au,x1)) fun v1=>(cond (decide (v1<0)) (ret ((-1):Int)) (call (Z3.R (x0.cw,v1)) fun v2=>(cond (decide (v2<0)) (ret ((-1):Int)) (ret (v2:Int))))))
def md (a0:aa)(a1:Int):Int:=jd (aa.size a0) a1
def gd (a0:aa)(a1:Int):Prop:=(aa.Sm maxLen a0)/\0<=a1/\a1<=1048576
def R:=RR (p2 gd) (u2 md)
def aq {a0 a1}(h:gd a0 a1):R ((aa.r a0),a1)=some (md a0 a1):=aR (a:=(a0,a1)) h
def aW:=CN [.agg AE,pI] oI RT.dec R
def bB (a0)(a1)(hg:gd a0 a1):F (aa.r a0) a1=ret (md a0 a1):=by
 obtain ⟨hs,g0,g1⟩:=hg
 unfold md
 show (call (Z2.R ((aG.r a0.au),a1)) fun v1=>(bif (decide (v1<0)) then ret ((-1):Int) else (call (Z3.R ((a0.cw.map bw.row),v1)) fun v2=>(cond (decide (v2<0)) (ret ((-1):Int)) (ret (v2:Int))))))=_
 rw [call_eq (Z2.aq (a1:=a1) ⟨hs.1,by omega,by omega⟩)]
 unfold Z2.md
 by_cases c0:a1<((aG.size a0.au:Nat):Int)
 ·rw [cQ c0];rw [show jd (aa.size a0) a1=-1 from cQ (by unfold aa.size;omega)];try rfl
 rw [dB c0,dz (by omega),bA]
 rw [call_eq (Z3.aq (a1:=(a1 - ((aG.size a0.au:Nat):Int))) ⟨hs.2,by omega,by omega⟩)]
 unfold Z3.md
 by_cases c1:(a1 - ((aG.size a0.au:Nat):Int))<((dP (fun y:bw=>bw.size y) a0.cw:Nat):Int)
 ·rw [cQ c1];rw [show jd (aa.size a0) a1=-1 from cQ (by unfold aa.size;omega)];try rfl
 rw [dB c1,dz (by omega),bA]
 rw [show jd (aa.size a0) a1=a1 - ((aG.size a0.au:Nat):Int) - ((dP (fun y:bw=>bw.size y) a0.cw:Nat):Int) from by rw [dB (by unfold aa.size;omega)];unfold aa.size;omega]
def af:cG 422 aW:=W2 18 F mix aF bB (.cons Z2.af (.cons Z3.af .nil)) Tryz.func422
end Z4
namespace Z5
inductive Pt where
 | p0 (a:aD) (b c:Int)
def pid:Pt->Nat
 | .p0 ..=>5
def cg:Pt->List V
 | .p0 a b c=>[.sl none 345 a,.int .i64 b,.int .i64 c]
def bZ:Pt->List aZ
 | .p0 a b c=>[]
def step (J:Pt->aK):Pt->aK
 | .p0 a b c=>(cond (decide (c<(a.length:Int))) (m2 c (a.length:Int) (call (Z4.R ((aT.at a (toNat c)),b)) fun v1=>(cond (decide (v1<0)) (ret ((-1):Int)) (J (.p0 a v1 (i64.wrap (c+1))))))) (ret (b:Int)))
def start (J:Pt->aK)(x0:aD)(x1:Int):aK:=(cond (decide ((i64.wrap (x1 - (x0.length:Int)))<0)) (ret ((-1):Int)) (J (.p0 x0 (i64.wrap (x1 - (x0.length:Int))) 0)))
def live:Nat->Live:=fun i=>match i with | 5=>[(0,none),(1,none),(5,none)] | _=>[]
def md (a0:List aa)(a1:Int):Int:=jd (dP (fun y:aa=>aa.size y) a0) a1
def gd (a0:List aa)(a1:Int):Prop:=(bO maxLen (fun y:aa=>aa.Sm maxLen y) a0)/\0<=a1/\a1<=1048576
def R:=RR (p2 gd) (u2 md)
def aq {a0 a1}(h:gd a0 a1):R ((a0.map aa.row),a1)=some (md a0 a1):=aR (a:=(a0,a1)) h
def aW:=CN [pL 345,pI] oI RT.dec R
def bB (a0)(a1)(hg:gd a0 a1):∃n,start (iter step n) (a0.map aa.row) a1=ret (md a0 a1):=by
 obtain ⟨hs,g0,g1⟩:=hg
 unfold start md
 simp only [List.length_map]
 refine jN (pt:=fun left i=>Pt.p0 (a0.map aa.row) left (i:Int)) (f:=fun y:aa=>aa.size y) hs.1 (fun J i h left p0 p1=>?_) (fun J left=>?_) g0 g1
 ·simp only [step,MM,List.length_map,aL h,aJ,bq,cB,aa.ec h]
  rw [call_eq (Z4.aq ⟨hs.get h,p0,p1⟩),aI h hs.1]
  unfold Z4.md
  by_cases hc:left<((aa.size (a0[i]):Nat):Int)
  ·rw [cQ hc,if_pos hc];rfl
  ·rw [dB hc,if_neg hc,dz (by omega)];rfl
 ·simp only [step,List.length_map,dY,bA]
def af:cG 320 aW:=L2 27 pid cg bZ live step start mix aF bB (.cons Z4.af .nil) Tryz.func320
end Z5
namespace Z6
inductive Pt where
 | p0 (a:aD) (b c:Int)
def pid:Pt->Nat
 | .p0 ..=>5
def cg:Pt->List V
 | .p0 a b c=>[.sl none 338 a,.int .i64 b,.int .i64 c]
def bZ:Pt->List aZ
 | .p0 a b c=>[]
def step (J:Pt->aK):Pt->aK
 | .p0 a b c=>(cond (decide (c<(a.length:Int))) (m2 c (a.length:Int) (call (Z5.R ((oT a (toNat c)),b)) fun v1=>(cond (decide (v1<0)) (ret ((-1):Int)) (J (.p0 a v1 (i64.wrap (c+1))))))) (ret (b:Int)))
def start (J:Pt->aK)(x0:aD)(x1:Int):aK:=(cond (decide ((i64.wrap (x1 - (x0.length:Int)))<0)) (ret ((-1):Int)) (J (.p0 x0 (i64.wrap (x1 - (x0.length:Int))) 0)))
def live:Nat->Live:=fun i=>match i with | 5=>[(0,none),(1,none),(5,none)] | _=>[]
def md (a0:List (List aa))(a1:Int):Int:=jd (dP (fun y:List aa=>dP (fun y:aa=>aa.size y) y) a0) a1
def gd (a0:List (List aa))(a1:Int):Prop:=(bO maxLen (fun y:List aa=>bO maxLen (fun y:aa=>aa.Sm maxLen y) y) a0)/\0<=a1/\a1<=1048576
def R:=RR (p2 gd) (u2 md)
def aq {a0 a1}(h:gd a0 a1):R ((a0.map (dO aa.row)),a1)=some (md a0 a1):=aR (a:=(a0,a1)) h
def aW:=CN [pL 338,pI] oI RT.dec R
def bB (a0)(a1)(hg:gd a0 a1):∃n,start (iter step n) (a0.map (dO aa.row)) a1=ret (md a0 a1):=by
 obtain ⟨hs,g0,g1⟩:=hg
 unfold start md
 simp only [List.length_map]
 refine jN (pt:=fun left i=>Pt.p0 (a0.map (dO aa.row)) left (i:Int)) (f:=fun y:List aa=>dP (fun y:aa=>aa.size y) y) hs.1 (fun J i h left p0 p1=>?_) (fun J left=>?_) g0 g1
 ·simp only [step,MM,List.length_map,aL h,aJ,bq,cB,qd h]
  rw [call_eq (Z5.aq ⟨hs.get h,p0,p1⟩),aI h hs.1]
  unfold Z5.md
  by_cases hc:left<((dP (fun y:aa=>aa.size y) (a0[i]):Nat):Int)
  ·rw [cQ hc,if_pos hc];rfl
  ·rw [dB hc,if_neg hc,dz (by omega)];rfl
 ·simp only [step,List.length_map,dY,bA]
def af:cG 161 aW:=L2 27 pid cg bZ live step start mix aF bB (.cons Z5.af .nil) Tryz.func161
end Z6
namespace Z7
def F (x0:bL)(x1:Int):aK:=(call (Z4.R (x0.aS,x1)) fun v1=>(cond (decide (v1<0)) (ret ((-1):Int)) (call (Z4.R (x0.fA,v1)) fun v2=>(cond (decide (v2<0)) (ret ((-1):Int)) (call (Z4.R (x0.fB,v2)) fun v3=>(cond (decide (v3<0)) (ret ((-1):Int)) (ret (v3:Int))))))))
def md (a0:aB)(a1:Int):Int:=jd (aB.size a0) a1
def gd (a0:aB)(a1:Int):Prop:=(aB.Sm maxLen a0)/\0<=a1/\a1<=1048576
def R:=RR (p2 gd) (u2 md)
def aq {a0 a1}(h:gd a0 a1):R ((aB.r a0),a1)=some (md a0 a1):=aR (a:=(a0,a1)) h
def aW:=CN [.agg AW,pI] oI RT.dec R
def bB (a0)(a1)(hg:gd a0 a1):F (aB.r a0) a1=ret (md a0 a1):=by
 obtain ⟨hs,g0,g1⟩:=hg
 unfold md
 show (call (Z4.R ((aa.r a0.aS),a1)) fun v1=>(bif (decide (v1<0)) then ret ((-1):Int) else (call (Z4.R ((aa.r a0.fA),v1)) fun v2=>(bif (decide (v2<0)) then ret ((-1):Int) else (call (Z4.R ((aa.r a0.fB),v2)) fun v3=>(cond (decide (v3<0)) (ret ((-1):Int)) (ret (v3:Int))))))))=_
 rw [call_eq (Z4.aq (a1:=a1) ⟨hs.1,by omega,by omega⟩)]
 unfold Z4.md
 by_cases c0:a1<((aa.size a0.aS:Nat):Int)
 ·rw [cQ c0];rw [show jd (aB.size a0) a1=-1 from cQ (by unfold aB.size;omega)];try rfl
 rw [dB c0,dz (by omega),bA]
 rw [call_eq (Z4.aq (a1:=(a1 - ((aa.size a0.aS:Nat):Int))) ⟨hs.2.1,by omega,by omega⟩)]
 unfold Z4.md
 by_cases c1:(a1 - ((aa.size a0.aS:Nat):Int))<((aa.size a0.fA:Nat):Int)
 ·rw [cQ c1];rw [show jd (aB.size a0) a1=-1 from cQ (by unfold aB.size;omega)];try rfl
 rw [dB c1,dz (by omega),bA]
 rw [call_eq (Z4.aq (a1:=(a1 - ((aa.size a0.aS:Nat):Int) - ((aa.size a0.fA:Nat):Int))) ⟨hs.2.2,by omega,by omega⟩)]
 unfold Z4.md
 by_cases c2:(a1 - ((aa.size a0.aS:Nat):Int) - ((aa.size a0.fA:Nat):Int))<((aa.size a0.fB:Nat):Int)
 ·rw [cQ c2];rw [show jd (aB.size a0) a1=-1 from cQ (by unfold aB.size;omega)];try rfl
 rw [dB c2,dz (by omega),bA]
 rw [show jd (aB.size a0) a1=a1 - ((aa.size a0.aS:Nat):Int) - ((aa.size a0.fA:Nat):Int) - ((aa.size a0.fB:Nat):Int) from by rw [dB (by unfold aB.size;omega)];unfold aB.size;omega]
def af:cG 321 aW:=W2 24 F mix aF bB (.cons Z4.af .nil) Tryz.func321
end Z7
namespace Z8
inductive Pt where
 | p0 (a:aD) (b c:Int)
def pid:Pt->Nat
 | .p0 ..=>5
def cg:Pt->List V
 | .p0 a b c=>[.sl none 347 a,.int .i64 b,.int .i64 c]
def bZ:Pt->List aZ
 | .p0 a b c=>[]
def step (J:Pt->aK):Pt->aK
 | .p0 a b c=>(cond (decide (c<(a.length:Int))) (m2 c (a.length:Int) (call (Z7.R ((bL.at a (toNat c)),b)) fun v1=>(cond (decide (v1<0)) (ret ((-1):Int)) (J (.p0 a v1 (i64.wrap (c+1))))))) (ret (b:Int)))
def start (J:Pt->aK)(x0:aD)(x1:Int):aK:=(cond (decide ((i64.wrap (x1 - (x0.length:Int)))<0)) (ret ((-1):Int)) (J (.p0 x0 (i64.wrap (x1 - (x0.length:Int))) 0)))
def live:Nat->Live:=fun i=>match i with | 5=>[(0,none),(1,none),(5,none)] | _=>[]
def md (a0:List aB)(a1:Int):Int:=jd (dP (fun y:aB=>aB.size y) a0) a1
def gd (a0:List aB)(a1:Int):Prop:=(bO maxLen (fun y:aB=>aB.Sm maxLen y) a0)/\0<=a1/\a1<=1048576
def R:=RR (p2 gd) (u2 md)
def aq {a0 a1}(h:gd a0 a1):R ((a0.map aB.row),a1)=some (md a0 a1):=aR (a:=(a0,a1)) h
def aW:=CN [pL 347,pI] oI RT.dec R
def bB (a0)(a1)(hg:gd a0 a1):∃n,start (iter step n) (a0.map aB.row) a1=ret (md a0 a1):=by
 obtain ⟨hs,g0,g1⟩:=hg
 unfold start md
 simp only [List.length_map]
 refine jN (pt:=fun left i=>Pt.p0 (a0.map aB.row) left (i:Int)) (f:=fun y:aB=>aB.size y) hs.1 (fun J i h left p0 p1=>?_) (fun J left=>?_) g0 g1
 ·simp only [step,MM,List.length_map,aL h,aJ,bq,cB,aB.ec h]
  rw [call_eq (Z7.aq ⟨hs.get h,p0,p1⟩),aI h hs.1]
  unfold Z7.md
  by_cases hc:left<((aB.size (a0[i]):Nat):Int)
  ·rw [cQ hc,if_pos hc];rfl
  ·rw [dB hc,if_neg hc,dz (by omega)];rfl
 ·simp only [step,List.length_map,dY,bA]
def af:cG 162 aW:=L2 27 pid cg bZ live step start mix aF bB (.cons Z7.af .nil) Tryz.func162
end Z8
namespace Z9
def F (x0:bt)(x1:Int):aK:=(call (Z6.R (x0.aH,x1)) fun v1=>(cond (decide (v1<0)) (ret ((-1):Int)) (call (Z8.R (x0.aY,v1)) fun v2=>(cond (decide (v2<0)) (ret ((-1):Int)) (ret (v2:Int))))))
def md (a0:aj)(a1:Int):Int:=jd (aj.size a0) a1
def gd (a0:aj)(a1:Int):Prop:=(aj.Sm maxLen a0)/\0<=a1/\a1<=1048576
def R:=RR (p2 gd) (u2 md)
def aq {a0 a1}(h:gd a0 a1):R ((aj.r a0),a1)=some (md a0 a1):=aR (a:=(a0,a1)) h
def aW:=CN [.agg k25,pI] oI RT.dec R
def bB (a0)(a1)(hg:gd a0 a1):F (aj.r a0) a1=ret (md a0 a1):=by
 obtain ⟨hs,g0,g1⟩:=hg
 unfold md
 show (call (Z6.R ((a0.aH.map (dO aa.row)),a1)) fun v1=>(bif (decide (v1<0)) then ret ((-1):Int) else (call (Z8.R ((a0.aY.map aB.row),v1)) fun v2=>(cond (decide (v2<0)) (ret ((-1):Int)) (ret (v2:Int))))))=_
 rw [call_eq (Z6.aq (a1:=a1) ⟨hs.1,by omega,by omega⟩)]
 unfold Z6.md
 by_cases c0:a1<((dP (fun y:List aa=>dP (fun y:aa=>aa.size y) y) a0.aH:Nat):Int)
 ·rw [cQ c0];rw [show jd (aj.size a0) a1=-1 from cQ (by unfold aj.size;omega)];try rfl
 rw [dB c0,dz (by omega),bA]
 rw [call_eq (Z8.aq (a1:=(a1 - ((dP (fun y:List aa=>dP (fun y:aa=>aa.size y) y) a0.aH:Nat):Int))) ⟨hs.2,by omega,by omega⟩)]
 unfold Z8.md
 by_cases c1:(a1 - ((dP (fun y:List aa=>dP (fun y:aa=>aa.size y) y) a0.aH:Nat):Int))<((dP (fun y:aB=>aB.size y) a0.aY:Nat):Int)
 ·rw [cQ c1];rw [show jd (aj.size a0) a1=-1 from cQ (by unfold aj.size;omega)];try rfl
 rw [dB c1,dz (by omega),bA]
 rw [show jd (aj.size a0) a1=a1 - ((dP (fun y:List aa=>dP (fun y:aa=>aa.size y) y) a0.aH:Nat):Int) - ((dP (fun y:aB=>aB.size y) a0.aY:Nat):Int) from by rw [dB (by unfold aj.size;omega)];unfold aj.size;omega]
def af:cG 21 aW:=W2 18 F mix aF bB (.cons Z6.af (.cons Z8.af .nil)) Tryz.func21
end Z9
namespace Z10
inductive Pt where
 | p0 (a:aD) (b c:Int)
def pid:Pt->Nat
 | .p0 ..=>5
def cg:Pt->List V
 | .p0 a b c=>[.sl none 9 a,.int .i64 b,.int .i64 c]
def bZ:Pt->List aZ
 | .p0 a b c=>[]
def step (J:Pt->aK):Pt->aK
 | .p0 a b c=>(cond (decide (c<(a.length:Int))) (m2 c (a.length:Int) (cond (decide ((i64.wrap (b - ((qk a (toNat c)).size:Int)))<0)) (ret ((-1):Int)) (J (.p0 a (i64.wrap (b - ((qk a (toNat c)).size:Int))) (i64.wrap (c+1)))))) (ret (b:Int)))
def start (J:Pt->aK)(x0:aD)(x1:Int):aK:=(cond (decide ((i64.wrap (x1 - (x0.length:Int)))<0)) (ret ((-1):Int)) (J (.p0 x0 (i64.wrap (x1 - (x0.length:Int))) 0)))
def live:Nat->Live:=fun i=>match i with | 5=>[(0,none),(1,none),(5,none)] | _=>[]
def md (a0:List aE)(a1:Int):Int:=jd (dP (fun y:aE=>y.size) a0) a1
def gd (a0:List aE)(a1:Int):Prop:=(bO maxLen (fun y:aE=>y.size<=maxLen) a0)/\0<=a1/\a1<=1048576
def R:=RR (p2 gd) (u2 md)
def aq {a0 a1}(h:gd a0 a1):R ((a0.map cI),a1)=some (md a0 a1):=aR (a:=(a0,a1)) h
def aW:=CN [pL 9,pI] oI RT.dec R
def bB (a0)(a1)(hg:gd a0 a1):∃n,start (iter step n) (a0.map cI) a1=ret (md a0 a1):=by
 obtain ⟨hs,g0,g1⟩:=hg
 unfold start md
 simp only [List.length_map]
 refine jN (pt:=fun left i=>Pt.p0 (a0.map cI) left (i:Int)) (f:=fun y:aE=>y.size) hs.1 (fun J i h left p0 p1=>?_) (fun J left=>?_) g0 g1
 ·simp only [step,MM,List.length_map,aL h,aJ,bq,cB,qe h]
  rw [lW p0 p1 (hs.get h),aI h hs.1]
  by_cases hc:left - ((a0[i].size:Nat):Int)<0
  ·rw [decide_eq_true hc,if_pos (by omega)];rfl
  ·rw [decide_eq_false hc,if_neg (by omega)];rfl
 ·simp only [step,List.length_map,dY,bA]
def af:cG 24 aW:=L2 28 pid cg bZ live step start mix aF bB .nil Tryz.func24
end Z10
namespace Z11
def F (x0:bf)(x1:Int):aK:=(cond (decide ((i64.wrap (x1 - (x0.bn.size:Int)))<0)) (ret ((-1):Int)) (call (Z10.R (x0.bH,(i64.wrap (x1 - (x0.bn.size:Int))))) fun v1=>(cond (decide (v1<0)) (ret ((-1):Int)) (ret (v1:Int)))))
def md (a0:ah)(a1:Int):Int:=jd (ah.size a0) a1
def gd (a0:ah)(a1:Int):Prop:=(ah.Sm maxLen a0)/\0<=a1/\a1<=1048576
def R:=RR (p2 gd) (u2 md)
def aq {a0 a1}(h:gd a0 a1):R ((ah.r a0),a1)=some (md a0 a1):=aR (a:=(a0,a1)) h
def aW:=CN [.agg Az,pI] oI RT.dec R
def bB (a0)(a1)(hg:gd a0 a1):F (ah.r a0) a1=ret (md a0 a1):=by
 obtain ⟨hs,g0,g1⟩:=hg
 unfold md
 show (bif (decide ((i64.wrap (a1 - (a0.bn.size:Int)))<0)) then ret ((-1):Int) else (call (Z10.R ((a0.bH.map cI),(i64.wrap (a1 - (a0.bn.size:Int))))) fun v1=>(cond (decide (v1<0)) (ret ((-1):Int)) (ret (v1:Int)))))=_
 rw [lW (left:=a1) (s:=a0.bn.size) (by omega) (by omega) hs.1]
 by_cases c0:a1 - ((a0.bn.size:Nat):Int)<0
 ·rw [decide_eq_true c0,bq];rw [show jd (ah.size a0) a1=-1 from cQ (by unfold ah.size;omega)];try rfl
 rw [decide_eq_false c0,bA]
 rw [call_eq (Z10.aq (a1:=(a1 - ((a0.bn.size:Nat):Int))) ⟨hs.2,by omega,by omega⟩)]
 unfold Z10.md
 by_cases c1:(a1 - ((a0.bn.size:Nat):Int))<((dP (fun y:aE=>y.size) a0.bH:Nat):Int)
 ·rw [cQ c1];rw [show jd (ah.size a0) a1=-1 from cQ (by unfold ah.size;omega)];try rfl
 rw [dB c1,dz (by omega),bA]
 rw [show jd (ah.size a0) a1=a1 - ((a0.bn.size:Nat):Int) - ((dP (fun y:aE=>y.size) a0.bH:Nat):Int) from by rw [dB (by unfold ah.size;omega)];unfold ah.size;omega]
def af:cG 495 aW:=W2 19 F mix aF bB (.cons Z10.af .nil) Tryz.func495
end Z11
namespace Z12
inductive Pt where
 | p0 (a:aD) (b c:Int)
def pid:Pt->Nat
 | .p0 ..=>5
def cg:Pt->List V
 | .p0 a b c=>[.sl none 357 a,.int .i64 b,.int .i64 c]
def bZ:Pt->List aZ
 | .p0 a b c=>[]
def step (J:Pt->aK):Pt->aK
 | .p0 a b c=>(cond (decide (c<(a.length:Int))) (m2 c (a.length:Int) (call (Z11.R ((bf.at a (toNat c)),b)) fun v1=>(cond (decide (v1<0)) (ret ((-1):Int)) (J (.p0 a v1 (i64.wrap (c+1))))))) (ret (b:Int)))
def start (J:Pt->aK)(x0:aD)(x1:Int):aK:=(cond (decide ((i64.wrap (x1 - (x0.length:Int)))<0)) (ret ((-1):Int)) (J (.p0 x0 (i64.wrap (x1 - (x0.length:Int))) 0)))
def live:Nat->Live:=fun i=>match i with | 5=>[(0,none),(1,none),(5,none)] | _=>[]
def md (a0:List ah)(a1:Int):Int:=jd (dP (fun y:ah=>ah.size y) a0) a1
def gd (a0:List ah)(a1:Int):Prop:=(bO maxLen (fun y:ah=>ah.Sm maxLen y) a0)/\0<=a1/\a1<=1048576
def R:=RR (p2 gd) (u2 md)
def aq {a0 a1}(h:gd a0 a1):R ((a0.map ah.row),a1)=some (md a0 a1):=aR (a:=(a0,a1)) h
def aW:=CN [pL 357,pI] oI RT.dec R
def bB (a0)(a1)(hg:gd a0 a1):∃n,start (iter step n) (a0.map ah.row) a1=ret (md a0 a1):=by
 obtain ⟨hs,g0,g1⟩:=hg
 unfold start md
 simp only [List.length_map]
 refine jN (pt:=fun left i=>Pt.p0 (a0.map ah.row) left (i:Int)) (f:=fun y:ah=>ah.size y) hs.1 (fun J i h left p0 p1=>?_) (fun J left=>?_) g0 g1
 ·simp only [step,MM,List.length_map,aL h,aJ,bq,cB,ah.ec h]
  rw [call_eq (Z11.aq ⟨hs.get h,p0,p1⟩),aI h hs.1]
  unfold Z11.md
  by_cases hc:left<((ah.size (a0[i]):Nat):Int)
  ·rw [cQ hc,if_pos hc];rfl
  ·rw [dB hc,if_neg hc,dz (by omega)];rfl
 ·simp only [step,List.length_map,dY,bA]
def af:cG 488 aW:=L2 27 pid cg bZ live step start mix aF bB (.cons Z11.af .nil) Tryz.func488
end Z12
namespace Z13
def F (x0:dS)(x1:Int):aK:=(call (Z5.R (x0.aU,x1)) fun v1=>(cond (decide (v1<0)) (ret ((-1):Int)) (call (Z12.R (x0.bP,v1)) fun v2=>(cond (decide (v2<0)) (ret ((-1):Int)) (ret (v2:Int))))))
def md (a0:aN)(a1:Int):Int:=jd (aN.size a0) a1
def gd (a0:aN)(a1:Int):Prop:=(aN.Sm maxLen a0)/\0<=a1/\a1<=1048576
def R:=RR (p2 gd) (u2 md)
def aq {a0 a1}(h:gd a0 a1):R ((aN.r a0),a1)=some (md a0 a1):=aR (a:=(a0,a1)) h
def aW:=CN [.agg AV,pI] oI RT.dec R
def bB (a0)(a1)(hg:gd a0 a1):F (aN.r a0) a1=ret (md a0 a1):=by
 obtain ⟨hs,g0,g1⟩:=hg
 unfold md
 show (call (Z5.R ((a0.aU.map aa.row),a1)) fun v1=>(bif (decide (v1<0)) then ret ((-1):Int) else (call (Z12.R ((a0.bP.map ah.row),v1)) fun v2=>(cond (decide (v2<0)) (ret ((-1):Int)) (ret (v2:Int))))))=_
 rw [call_eq (Z5.aq (a1:=a1) ⟨hs.1,by omega,by omega⟩)]
 unfold Z5.md
 by_cases c0:a1<((dP (fun y:aa=>aa.size y) a0.aU:Nat):Int)
 ·rw [cQ c0];rw [show jd (aN.size a0) a1=-1 from cQ (by unfold aN.size;omega)];try rfl
 rw [dB c0,dz (by omega),bA]
 rw [call_eq (Z12.aq (a1:=(a1 - ((dP (fun y:aa=>aa.size y) a0.aU:Nat):Int))) ⟨hs.2,by omega,by omega⟩)]
 unfold Z12.md
 by_cases c1:(a1 - ((dP (fun y:aa=>aa.size y) a0.aU:Nat):Int))<((dP (fun y:ah=>ah.size y) a0.bP:Nat):Int)
 ·rw [cQ c1];rw [show jd (aN.size a0) a1=-1 from cQ (by unfold aN.size;omega)];try rfl
 rw [dB c1,dz (by omega),bA]
 rw [show jd (aN.size a0) a1=a1 - ((dP (fun y:aa=>aa.size y) a0.aU:Nat):Int) - ((dP (fun y:ah=>ah.size y) a0.bP:Nat):Int) from by rw [dB (by unfold aN.size;omega)];unfold aN.size;omega]
def af:cG 423 aW:=W2 18 F mix aF bB (.cons Z5.af (.cons Z12.af .nil)) Tryz.func423
end Z13
namespace Z14
inductive Pt where
 | p0 (a:aD) (b c:Int)
def pid:Pt->Nat
 | .p0 ..=>5
def cg:Pt->List V
 | .p0 a b c=>[.sl none 423 a,.int .i64 b,.int .i64 c]
def bZ:Pt->List aZ
 | .p0 a b c=>[]
def step (J:Pt->aK):Pt->aK
 | .p0 a b c=>(cond (decide (c<(a.length:Int))) (m2 c (a.length:Int) (call (Z13.R ((dS.at a (toNat c)),b)) fun v1=>(cond (decide (v1<0)) (ret ((-1):Int)) (J (.p0 a v1 (i64.wrap (c+1))))))) (ret (b:Int)))
def start (J:Pt->aK)(x0:aD)(x1:Int):aK:=(cond (decide ((i64.wrap (x1 - (x0.length:Int)))<0)) (ret ((-1):Int)) (J (.p0 x0 (i64.wrap (x1 - (x0.length:Int))) 0)))
def live:Nat->Live:=fun i=>match i with | 5=>[(0,none),(1,none),(5,none)] | _=>[]
def md (a0:List aN)(a1:Int):Int:=jd (dP (fun y:aN=>aN.size y) a0) a1
def gd (a0:List aN)(a1:Int):Prop:=(bO maxLen (fun y:aN=>aN.Sm maxLen y) a0)/\0<=a1/\a1<=1048576
def R:=RR (p2 gd) (u2 md)
def aq {a0 a1}(h:gd a0 a1):R ((a0.map aN.row),a1)=some (md a0 a1):=aR (a:=(a0,a1)) h
def aW:=CN [pL 423,pI] oI RT.dec R
def bB (a0)(a1)(hg:gd a0 a1):∃n,start (iter step n) (a0.map aN.row) a1=ret (md a0 a1):=by
 obtain ⟨hs,g0,g1⟩:=hg
 unfold start md
 simp only [List.length_map]
 refine jN (pt:=fun left i=>Pt.p0 (a0.map aN.row) left (i:Int)) (f:=fun y:aN=>aN.size y) hs.1 (fun J i h left p0 p1=>?_) (fun J left=>?_) g0 g1
 ·simp only [step,MM,List.length_map,aL h,aJ,bq,cB,aN.ec h]
  rw [call_eq (Z13.aq ⟨hs.get h,p0,p1⟩),aI h hs.1]
  unfold Z13.md
  by_cases hc:left<((aN.size (a0[i]):Nat):Int)
  ·rw [cQ hc,if_pos hc];rfl
  ·rw [dB hc,if_neg hc,dz (by omega)];rfl
 ·simp only [step,List.length_map,dY,bA]
def af:cG 322 aW:=L2 27 pid cg bZ live step start mix aF bB (.cons Z13.af .nil) Tryz.func322
end Z14
namespace Z15
def F (x0:cR)(x1:Int):aK:=(call (Z14.R (x0.bK,x1)) fun v1=>(cond (decide (v1<0)) (ret ((-1):Int)) (ret (v1:Int))))
def md (a0:av)(a1:Int):Int:=jd (av.size a0) a1
def gd (a0:av)(a1:Int):Prop:=(av.Sm maxLen a0)/\0<=a1/\a1<=1048576
def R:=RR (p2 gd) (u2 md)
def aq {a0 a1}(h:gd a0 a1):R ((av.r a0),a1)=some (md a0 a1):=aR (a:=(a0,a1)) h
def aW:=CN [.agg AA,pI] oI RT.dec R
def bB (a0)(a1)(hg:gd a0 a1):F (av.r a0) a1=ret (md a0 a1):=by
 obtain ⟨hs,g0,g1⟩:=hg
 unfold md
 show (call (Z14.R ((a0.bK.map aN.row),a1)) fun v1=>(cond (decide (v1<0)) (ret ((-1):Int)) (ret (v1:Int))))=_
 rw [call_eq (Z14.aq (a1:=a1) ⟨hs,by omega,by omega⟩)]
 unfold Z14.md
 by_cases c0:a1<((dP (fun y:aN=>aN.size y) a0.bK:Nat):Int)
 ·rw [cQ c0];rw [show jd (av.size a0) a1=-1 from cQ (by unfold av.size;omega)];try rfl
 rw [dB c0,dz (by omega),bA]
 rw [show jd (av.size a0) a1=a1 - ((dP (fun y:aN=>aN.size y) a0.bK:Nat):Int) from by rw [dB (by unfold av.size;omega)];unfold av.size;omega]
def af:cG 163 aW:=W2 12 F mix aF bB (.cons Z14.af .nil) Tryz.func163
end Z15
namespace Z16
inductive Pt where
 | p0 (a:aD) (b c:Int)
def pid:Pt->Nat
 | .p0 ..=>5
def cg:Pt->List V
 | .p0 a b c=>[.sl none 218 a,.int .i64 b,.int .i64 c]
def bZ:Pt->List aZ
 | .p0 a b c=>[]
def step (J:Pt->aK):Pt->aK
 | .p0 a b c=>(cond (decide (c<(a.length:Int))) (m2 c (a.length:Int) (call (Z15.R ((cR.at a (toNat c)),b)) fun v1=>(cond (decide (v1<0)) (ret ((-1):Int)) (J (.p0 a v1 (i64.wrap (c+1))))))) (ret (b:Int)))
def start (J:Pt->aK)(x0:aD)(x1:Int):aK:=(cond (decide ((i64.wrap (x1 - (x0.length:Int)))<0)) (ret ((-1):Int)) (J (.p0 x0 (i64.wrap (x1 - (x0.length:Int))) 0)))
def live:Nat->Live:=fun i=>match i with | 5=>[(0,none),(1,none),(5,none)] | _=>[]
def md (a0:List av)(a1:Int):Int:=jd (dP (fun y:av=>av.size y) a0) a1
def gd (a0:List av)(a1:Int):Prop:=(bO maxLen (fun y:av=>av.Sm maxLen y) a0)/\0<=a1/\a1<=1048576
def R:=RR (p2 gd) (u2 md)
def aq {a0 a1}(h:gd a0 a1):R ((a0.map av.row),a1)=some (md a0 a1):=aR (a:=(a0,a1)) h
def aW:=CN [pL 218,pI] oI RT.dec R
def bB (a0)(a1)(hg:gd a0 a1):∃n,start (iter step n) (a0.map av.row) a1=ret (md a0 a1):=by
 obtain ⟨hs,g0,g1⟩:=hg
 unfold start md
 simp only [List.length_map]
 refine jN (pt:=fun left i=>Pt.p0 (a0.map av.row) left (i:Int)) (f:=fun y:av=>av.size y) hs.1 (fun J i h left p0 p1=>?_) (fun J left=>?_) g0 g1
 ·simp only [step,MM,List.length_map,aL h,aJ,bq,cB,av.ec h]
  rw [call_eq (Z15.aq ⟨hs.get h,p0,p1⟩),aI h hs.1]
  unfold Z15.md
  by_cases hc:left<((av.size (a0[i]):Nat):Int)
  ·rw [cQ hc,if_pos hc];rfl
  ·rw [dB hc,if_neg hc,dz (by omega)];rfl
 ·simp only [step,List.length_map,dY,bA]
def af:cG 22 aW:=L2 27 pid cg bZ live step start mix aF bB (.cons Z15.af .nil) Tryz.func22
end Z16
namespace Z17
def F (x0:bk)(x1:Int):aK:=(cond (decide ((i64.wrap (x1 - (x0.fName.size:Int)))<0)) (ret ((-1):Int)) (ret ((i64.wrap (x1 - (x0.fName.size:Int))):Int)))
def md (a0:bk)(a1:Int):Int:=jd (bk.size a0) a1
def gd (a0:bk)(a1:Int):Prop:=(bk.Sm maxLen a0)/\0<=a1/\a1<=1048576
def R:=RR (p2 gd) (u2 md)
def aq {a0 a1}(h:gd a0 a1):R (a0,a1)=some (md a0 a1):=aR (a:=(a0,a1)) h
def aW:=CN [.agg Ar,pI] oI RT.dec R
def bB (a0)(a1)(hg:gd a0 a1):F a0 a1=ret (md a0 a1):=by
 obtain ⟨hs,g0,g1⟩:=hg
 unfold md
 show (cond (decide ((i64.wrap (a1 - (a0.fName.size:Int)))<0)) (ret ((-1):Int)) (ret ((i64.wrap (a1 - (a0.fName.size:Int))):Int)))=_
 rw [lW (left:=a1) (s:=a0.fName.size) (by omega) (by omega) hs]
 by_cases c0:a1 - ((a0.fName.size:Nat):Int)<0
 ·rw [decide_eq_true c0,bq];rw [show jd (bk.size a0) a1=-1 from cQ (by unfold bk.size;omega)];try rfl
 rw [decide_eq_false c0,bA]
 rw [show jd (bk.size a0) a1=a1 - ((a0.fName.size:Nat):Int) from by rw [dB (by unfold bk.size;omega)];unfold bk.size;omega]
def af:cG 164 aW:=W2 13 F mix aF bB .nil Tryz.func164
end Z17
namespace Z18
inductive Pt where
 | p0 (a:aD) (b c:Int)
def pid:Pt->Nat
 | .p0 ..=>5
def cg:Pt->List V
 | .p0 a b c=>[.sl none 220 a,.int .i64 b,.int .i64 c]
def bZ:Pt->List aZ
 | .p0 a b c=>[]
def step (J:Pt->aK):Pt->aK
 | .p0 a b c=>(cond (decide (c<(a.length:Int))) (m2 c (a.length:Int) (call (Z17.R ((bk.at a (toNat c)),b)) fun v1=>(cond (decide (v1<0)) (ret ((-1):Int)) (J (.p0 a v1 (i64.wrap (c+1))))))) (ret (b:Int)))
def start (J:Pt->aK)(x0:aD)(x1:Int):aK:=(cond (decide ((i64.wrap (x1 - (x0.length:Int)))<0)) (ret ((-1):Int)) (J (.p0 x0 (i64.wrap (x1 - (x0.length:Int))) 0)))
def live:Nat->Live:=fun i=>match i with | 5=>[(0,none),(1,none),(5,none)] | _=>[]
def md (a0:List bk)(a1:Int):Int:=jd (dP (fun y:bk=>bk.size y) a0) a1
def gd (a0:List bk)(a1:Int):Prop:=(bO maxLen (fun y:bk=>bk.Sm maxLen y) a0)/\0<=a1/\a1<=1048576
def R:=RR (p2 gd) (u2 md)
def aq {a0 a1}(h:gd a0 a1):R ((a0.map bk.row),a1)=some (md a0 a1):=aR (a:=(a0,a1)) h
def aW:=CN [pL 220,pI] oI RT.dec R
def bB (a0)(a1)(hg:gd a0 a1):∃n,start (iter step n) (a0.map bk.row) a1=ret (md a0 a1):=by
 obtain ⟨hs,g0,g1⟩:=hg
 unfold start md
 simp only [List.length_map]
 refine jN (pt:=fun left i=>Pt.p0 (a0.map bk.row) left (i:Int)) (f:=fun y:bk=>bk.size y) hs.1 (fun J i h left p0 p1=>?_) (fun J left=>?_) g0 g1
 ·simp only [step,MM,List.length_map,aL h,aJ,bq,cB,bk.ec h]
  rw [call_eq (Z17.aq ⟨hs.get h,p0,p1⟩),aI h hs.1]
  unfold Z17.md
  by_cases hc:left<((bk.size (a0[i]):Nat):Int)
  ·rw [cQ hc,if_pos hc];rfl
  ·rw [dB hc,if_neg hc,dz (by omega)];rfl
 ·simp only [step,List.length_map,dY,bA]
def af:cG 23 aW:=L2 27 pid cg bZ live step start mix aF bB (.cons Z17.af .nil) Tryz.func23
end Z18
namespace Z19
inductive Pt where
 | p0 (a:aD) (b:Int) (c:aD)
def pid:Pt->Nat
 | .p0 ..=>3
def cg:Pt->List V
 | .p0 a b c=>[.sl none 3 a,.own 0,.int .i64 b]
def bZ:Pt->List aZ
 | .p0 a b c=>[.row 3 c]
def step (J:Pt->aK):Pt->aK
 | .p0 a b c=>(cond (decide (b<(a.length:Int))) (m2 b (a.length:Int) (m2 b (c.length:Int) (J (.p0 a (i64.wrap (b+1)) (List.set c (toNat b) [L.int (jG a (toNat b))]))))) (ret (c:aD)))
def start (J:Pt->aK)(x0:aD):aK:=(cm (decide ((0:Int)<=(x0.length:Int))) (cm (decide ((x0.length:Int)<=(x0.length:Int))) (cm (decide ((x0.length:Int)*8<=140737488355328)) (J (.p0 x0 0 (List.replicate (toNat (x0.length:Int)) [L.int 0]))))))
def live:Nat->Live:=fun i=>match i with | 3=>[(0,none),(3,none),(4,none)] | _=>[]
def md (a0:List Int):List Int:=a0
def gd (a0:List Int):Prop:=bO (2^36) (fun y:Int=>True) a0
def R:=RR gd md
def aq {a0}(h:gd a0):R (a0.map bu)=some (a0.map bu):=aR (a:=a0) h
def aW:=CN [pL 3] (oL 3) RT.dec R
def bB (a0)(hg:gd a0):∃n,start (iter step n) (a0.map bu)=ret ((md a0).map bu):=by
 unfold start md
 simp only [List.length_map]
 refine iR (b:=8) (pt:=fun i c=>Pt.p0 (a0.map bu) (i:Int) c) (by have:=hg.1;simp at this;omega) (fun J i h c hc=>?_) (fun J c=>?_)
 ·simp only [step,MM,List.length_map,aL h,aJ,bq,cB,tG h,hc]
  rw [aI (n:=a0.length) h (by have:=hg.1;simp only [maxLen];simp at this;omega)]
  rfl
 ·simp only [step,List.length_map,dY,bA]
def af:cG 556 aW:=L1 22 pid cg bZ live step start mix aF bB .nil Tryz.func556
end Z19
namespace Z20
def F (x0:bF):aK:=(call (Z19.R x0.aX) fun v1=>ret ((⟨v1,x0.cH⟩:bF):bF))
def md (a0:aO):aO:=a0
def gd (a0:aO):Prop:=aO.Sm (2^36) a0
def R:=RR gd md
def aq {a0}(h:gd a0):R (aO.r a0)=some (aO.r a0):=aR (a:=a0) h
def aW:=CN [.agg AK] (.agg f98) RT.dec R
def bB (a0)(hg:gd a0):F (aO.r a0)=ret (aO.r (md a0)):=by
 unfold md
 show (call (Z19.R (a0.aX.map bu)) fun v1=>ret ((⟨v1,a0.cH⟩:bF):bF))=_
 rw [call_eq (Z19.aq hg)]
 rfl
def af:cG 551 aW:=W1 12 F mix aF bB (.cons Z19.af .nil) Tryz.func551
end Z20
namespace Z21
def F (x0:ck):aK:=(call (Z20.R x0.bQ) fun v1=>(call (Z20.R x0.bE) fun v2=>(call (Z20.R x0.bC) fun v3=>ret ((⟨x0.bz,x0.cN,x0.bM,x0.cK,x0.cF,x0.cz,x0.dm,x0.dH,v1,v2,x0.dw,v3,x0.bG⟩:ck):ck))))
def md (a0:aG):aG:=a0
def gd (a0:aG):Prop:=aG.Sm (2^36) a0
def R:=RR gd md
def aq {a0}(h:gd a0):R (aG.r a0)=some (aG.r a0):=aR (a:=a0) h
def aW:=CN [.agg A4] (.agg f102) RT.dec R
def bB (a0)(hg:gd a0):F (aG.r a0)=ret (aG.r (md a0)):=by
 unfold md
 show (call (Z20.R (aO.r a0.bQ)) fun v1=>(call (Z20.R (aO.r a0.bE)) fun v2=>(call (Z20.R (aO.r a0.bC)) fun v3=>ret ((⟨a0.bz,a0.cN,a0.bM,a0.cK,a0.cF,a0.cz,a0.dm,a0.dH,v1,v2,a0.dw,v3,a0.bG⟩:ck):ck))))=_
 rw [call_eq (Z20.aq hg.1)]
 rw [call_eq (Z20.aq hg.2.1)]
 rw [call_eq (Z20.aq hg.2.2)]
 rfl
def af:cG 489 aW:=W1 47 F mix aF bB (.cons Z20.af .nil) Tryz.func489
end Z21
namespace Z22
def F (x0:bw):aK:=ret (x0:bw)
def md (a0:bw):bw:=a0
def gd (a0:bw):Prop:=bw.Sm (2^36) a0
def R:=RR gd md
def aq {a0}(h:gd a0):R a0=some a0:=aR (a:=a0) h
def aW:=CN [.agg A8] (.agg f428) RT.dec R
def bB (a0)(hg:gd a0):F a0=ret (md a0):=by
 rfl
def af:cG 552 aW:=W1 11 F mix aF bB .nil Tryz.func552
end Z22
namespace Z23
inductive Pt where
 | p0 (a:aD) (b:Int) (c:aD)
def pid:Pt->Nat
 | .p0 ..=>3
def cg:Pt->List V
 | .p0 a b c=>[.sl none 516 a,.own 0,.int .i64 b]
def bZ:Pt->List aZ
 | .p0 a b c=>[.row 428 c]
def step (J:Pt->aK):Pt->aK
 | .p0 a b c=>(cond (decide (b<(a.length:Int))) (m2 b (a.length:Int) (call (Z22.R (bw.at a (toNat b))) fun v1=>(m2 b (c.length:Int) (J (.p0 a (i64.wrap (b+1)) (List.set c (toNat b) (bw.enc v1))))))) (ret (c:aD)))
def start (J:Pt->aK)(x0:aD):aK:=(cm (decide ((0:Int)<=(x0.length:Int))) (cm (decide ((x0.length:Int)<=(x0.length:Int))) (cm (decide ((x0.length:Int)*16<=140737488355328)) (J (.p0 x0 0 (List.replicate (toNat (x0.length:Int)) [L.int 0,L.int 0]))))))
def live:Nat->Live:=fun i=>match i with | 3=>[(0,none),(3,none),(4,none)] | _=>[]
def md (a0:List bw):List bw:=a0
def gd (a0:List bw):Prop:=bO (2^36) (fun y:bw=>bw.Sm (2^36) y) a0
def R:=RR gd md
def aq {a0}(h:gd a0):R (a0.map bw.row)=some (a0.map bw.row):=aR (a:=a0) h
def aW:=CN [pL 516] (oL 428) RT.dec R
def bB (a0)(hg:gd a0):∃n,start (iter step n) (a0.map bw.row)=ret ((md a0).map bw.row):=by
 unfold start md
 simp only [List.length_map]
 refine iR (b:=16) (pt:=fun i c=>Pt.p0 (a0.map bw.row) (i:Int) c) (by have:=hg.1;simp at this;omega) (fun J i h c hc=>?_) (fun J c=>?_)
 ·simp only [step,MM,List.length_map,aL h,aJ,bq,cB,bw.ec h,hc]
  rw [call_eq (Z22.aq (hg.get h))]
  try simp only [hc,aL h,bq]
  rw [aI (n:=a0.length) h (by have:=hg.1;simp only [maxLen];simp at this;omega)]
  rfl
 ·simp only [step,List.length_map,dY,bA]
def af:cG 490 aW:=L1 23 pid cg bZ live step start mix aF bB (.cons Z22.af .nil) Tryz.func490
end Z23
namespace Z24
def F (x0:aT):aK:=(call (Z21.R x0.au) fun v1=>(call (Z23.R x0.cw) fun v2=>ret ((⟨v1,v2⟩:aT):aT)))
def md (a0:aa):aa:=a0
def gd (a0:aa):Prop:=aa.Sm (2^36) a0
def R:=RR gd md
def aq {a0}(h:gd a0):R (aa.r a0)=some (aa.r a0):=aR (a:=a0) h
def aW:=CN [.agg AE] (.agg f123) RT.dec R
def bB (a0)(hg:gd a0):F (aa.r a0)=ret (aa.r (md a0)):=by
 unfold md
 show (call (Z21.R (aG.r a0.au)) fun v1=>(call (Z23.R (a0.cw.map bw.row)) fun v2=>ret ((⟨v1,v2⟩:aT):aT)))=_
 rw [call_eq (Z21.aq hg.1)]
 rw [call_eq (Z23.aq hg.2)]
 rfl
def af:cG 424 aW:=W1 13 F mix aF bB (.cons Z21.af (.cons Z23.af .nil)) Tryz.func424
end Z24
namespace Z25
inductive Pt where
 | p0 (a:aD) (b:Int) (c:aD)
def pid:Pt->Nat
 | .p0 ..=>3
def cg:Pt->List V
 | .p0 a b c=>[.sl none 345 a,.own 0,.int .i64 b]
def bZ:Pt->List aZ
 | .p0 a b c=>[.row 123 c]
def step (J:Pt->aK):Pt->aK
 | .p0 a b c=>(cond (decide (b<(a.length:Int))) (m2 b (a.length:Int) (call (Z24.R (aT.at a (toNat b))) fun v1=>(m2 b (c.length:Int) (J (.p0 a (i64.wrap (b+1)) (List.set c (toNat b) (aT.enc v1))))))) (ret (c:aD)))
def start (J:Pt->aK)(x0:aD):aK:=(cm (decide ((0:Int)<=(x0.length:Int))) (cm (decide ((x0.length:Int)<=(x0.length:Int))) (cm (decide ((x0.length:Int)*200<=140737488355328)) (J (.p0 x0 0 (List.replicate (toNat (x0.length:Int)) [L.int 0,L.int 0,L.int 0,L.int 0,L.int 0,L.int 0,L.int 0,L.int 0,L.sl [],L.int 0,L.sl [],L.int 0,L.int 0,L.sl [],L.int 0,L.bool false,L.sl []]))))))
def live:Nat->Live:=fun i=>match i with | 3=>[(0,none),(3,none),(4,none)] | _=>[]
def md (a0:List aa):List aa:=a0
def gd (a0:List aa):Prop:=bO (2^36) (fun y:aa=>aa.Sm (2^36) y) a0
def R:=RR gd md
def aq {a0}(h:gd a0):R (a0.map aa.row)=some (a0.map aa.row):=aR (a:=a0) h
def aW:=CN [pL 345] (oL 123) RT.dec R
def bB (a0)(hg:gd a0):∃n,start (iter step n) (a0.map aa.row)=ret ((md a0).map aa.row):=by
 unfold start md
 simp only [List.length_map]
 refine iR (b:=200) (pt:=fun i c=>Pt.p0 (a0.map aa.row) (i:Int) c) (by have:=hg.1;simp at this;omega) (fun J i h c hc=>?_) (fun J c=>?_)
 ·simp only [step,MM,List.length_map,aL h,aJ,bq,cB,aa.ec h,hc]
  rw [call_eq (Z24.aq (hg.get h))]
  try simp only [hc,aL h,bq]
  rw [aI (n:=a0.length) h (by have:=hg.1;simp only [maxLen];simp at this;omega)]
  rfl
 ·simp only [step,List.length_map,dY,bA]
def af:cG 324 aW:=L1 23 pid cg bZ live step start mix aF bB (.cons Z24.af .nil) Tryz.func324
end Z25
namespace Z26
inductive Pt where
 | p0 (a:aD) (b:Int) (c:aD)
def pid:Pt->Nat
 | .p0 ..=>3
def cg:Pt->List V
 | .p0 a b c=>[.sl none 338 a,.own 0,.int .i64 b]
def bZ:Pt->List aZ
 | .p0 a b c=>[.row 92 c]
def step (J:Pt->aK):Pt->aK
 | .p0 a b c=>(cond (decide (b<(a.length:Int))) (m2 b (a.length:Int) (call (Z25.R (oT a (toNat b))) fun v1=>(m2 b (c.length:Int) (J (.p0 a (i64.wrap (b+1)) (List.set c (toNat b) [L.sl v1])))))) (ret (c:aD)))
def start (J:Pt->aK)(x0:aD):aK:=(cm (decide ((0:Int)<=(x0.length:Int))) (cm (decide ((x0.length:Int)<=(x0.length:Int))) (cm (decide ((x0.length:Int)*24<=140737488355328)) (J (.p0 x0 0 (List.replicate (toNat (x0.length:Int)) [L.sl []]))))))
def live:Nat->Live:=fun i=>match i with | 3=>[(0,none),(3,none),(4,none)] | _=>[]
def md (a0:List (List aa)):List (List aa):=a0
def gd (a0:List (List aa)):Prop:=bO (2^36) (fun y:List aa=>bO (2^36) (fun y:aa=>aa.Sm (2^36) y) y) a0
def R:=RR gd md
def aq {a0}(h:gd a0):R (a0.map (dO aa.row))=some (a0.map (dO aa.row)):=aR (a:=a0) h
def aW:=CN [pL 338] (oL 92) RT.dec R
def bB (a0)(hg:gd a0):∃n,start (iter step n) (a0.map (dO aa.row))=ret ((md a0).map (dO aa.row)):=by
 unfold start md
 simp only [List.length_map]
 refine iR (b:=24) (pt:=fun i c=>Pt.p0 (a0.map (dO aa.row)) (i:Int) c) (by have:=hg.1;simp at this;omega) (fun J i h c hc=>?_) (fun J c=>?_)
 ·simp only [step,MM,List.length_map,aL h,aJ,bq,cB,qd h,hc]
  rw [call_eq (Z25.aq (hg.get h))]
  try simp only [hc,aL h,bq]
  rw [aI (n:=a0.length) h (by have:=hg.1;simp only [maxLen];simp at this;omega)]
  rfl
 ·simp only [step,List.length_map,dY,bA]
def af:cG 166 aW:=L1 23 pid cg bZ live step start mix aF bB (.cons Z25.af .nil) Tryz.func166
end Z26
namespace Z27
def F (x0:bL):aK:=(call (Z24.R x0.aS) fun v1=>(call (Z24.R x0.fA) fun v2=>(call (Z24.R x0.fB) fun v3=>ret ((⟨v1,v2,v3⟩:bL):bL))))
def md (a0:aB):aB:=a0
def gd (a0:aB):Prop:=aB.Sm (2^36) a0
def R:=RR gd md
def aq {a0}(h:gd a0):R (aB.r a0)=some (aB.r a0):=aR (a:=a0) h
def aW:=CN [.agg AW] (.agg f280) RT.dec R
def bB (a0)(hg:gd a0):F (aB.r a0)=ret (aB.r (md a0)):=by
 unfold md
 show (call (Z24.R (aa.r a0.aS)) fun v1=>(call (Z24.R (aa.r a0.fA)) fun v2=>(call (Z24.R (aa.r a0.fB)) fun v3=>ret ((⟨v1,v2,v3⟩:bL):bL))))=_
 rw [call_eq (Z24.aq hg.1)]
 rw [call_eq (Z24.aq hg.2.1)]
 rw [call_eq (Z24.aq hg.2.2)]
 rfl
def af:cG 325 aW:=W1 17 F mix aF bB (.cons Z24.af .nil) Tryz.func325
end Z27
namespace Z28
inductive Pt where
 | p0 (a:aD) (b:Int) (c:aD)
def pid:Pt->Nat
 | .p0 ..=>3
def cg:Pt->List V
 | .p0 a b c=>[.sl none 347 a,.own 0,.int .i64 b]
def bZ:Pt->List aZ
 | .p0 a b c=>[.row 280 c]
def step (J:Pt->aK):Pt->aK
 | .p0 a b c=>(cond (decide (b<(a.length:Int))) (m2 b (a.length:Int) (call (Z27.R (bL.at a (toNat b))) fun v1=>(m2 b (c.length:Int) (J (.p0 a (i64.wrap (b+1)) (List.set c (toNat b) (bL.enc v1))))))) (ret (c:aD)))
def start (J:Pt->aK)(x0:aD):aK:=(cm (decide ((0:Int)<=(x0.length:Int))) (cm (decide ((x0.length:Int)<=(x0.length:Int))) (cm (decide ((x0.length:Int)*600<=140737488355328)) (J (.p0 x0 0 (List.replicate (toNat (x0.length:Int)) [L.int 0,L.int 0,L.int 0,L.int 0,L.int 0,L.int 0,L.int 0,L.int 0,L.sl [],L.int 0,L.sl [],L.int 0,L.int 0,L.sl [],L.int 0,L.bool false,L.sl [],L.int 0,L.int 0,L.int 0,L.int 0,L.int 0,L.int 0,L.int 0,L.int 0,L.sl [],L.int 0,L.sl [],L.int 0,L.int 0,L.sl [],L.int 0,L.bool false,L.sl [],L.int 0,L.int 0,L.int 0,L.int 0,L.int 0,L.int 0,L.int 0,L.int 0,L.sl [],L.int 0,L.sl [],L.int 0,L.int 0,L.sl [],L.int 0,L.bool false,L.sl []]))))))
def live:Nat->Live:=fun i=>match i with | 3=>[(0,none),(3,none),(4,none)] | _=>[]
def md (a0:List aB):List aB:=a0
def gd (a0:List aB):Prop:=bO (2^36) (fun y:aB=>aB.Sm (2^36) y) a0
def R:=RR gd md
def aq {a0}(h:gd a0):R (a0.map aB.row)=some (a0.map aB.row):=aR (a:=a0) h
def aW:=CN [pL 347] (oL 280) RT.dec R
def bB (a0)(hg:gd a0):∃n,start (iter step n) (a0.map aB.row)=ret ((md a0).map aB.row):=by
 unfold start md
 simp only [List.length_map]
 refine iR (b:=600) (pt:=fun i c=>Pt.p0 (a0.map aB.row) (i:Int) c) (by have:=hg.1;simp at this;omega) (fun J i h c hc=>?_) (fun J c=>?_)
 ·simp only [step,MM,List.length_map,aL h,aJ,bq,cB,aB.ec h,hc]
  rw [call_eq (Z27.aq (hg.get h))]
  try simp only [hc,aL h,bq]
  rw [aI (n:=a0.length) h (by have:=hg.1;simp only [maxLen];simp at this;omega)]
  rfl
 ·simp only [step,List.length_map,dY,bA]
def af:cG 167 aW:=L1 23 pid cg bZ live step start mix aF bB (.cons Z27.af .nil) Tryz.func167
end Z28
namespace Z29
def F (x0:bt):aK:=(call (Z26.R x0.aH) fun v1=>(call (Z28.R x0.aY) fun v2=>ret ((⟨v1,v2⟩:bt):bt)))
def md (a0:aj):aj:=a0
def gd (a0:aj):Prop:=aj.Sm (2^36) a0
def R:=RR gd md
def aq {a0}(h:gd a0):R (aj.r a0)=some (aj.r a0):=aR (a:=a0) h
def aW:=CN [.agg k25] (.agg f37) RT.dec R
def bB (a0)(hg:gd a0):F (aj.r a0)=ret (aj.r (md a0)):=by
 unfold md
 show (call (Z26.R (a0.aH.map (dO aa.row))) fun v1=>(call (Z28.R (a0.aY.map aB.row)) fun v2=>ret ((⟨v1,v2⟩:bt):bt)))=_
 rw [call_eq (Z26.aq hg.1)]
 rw [call_eq (Z28.aq hg.2)]
 rfl
def af:cG 26 aW:=W1 13 F mix aF bB (.cons Z26.af (.cons Z28.af .nil)) Tryz.func26
end Z29
namespace Z30
inductive Pt where
 | p0 (a:aD) (b:Int) (c:aD)
def pid:Pt->Nat
 | .p0 ..=>3
def cg:Pt->List V
 | .p0 a b c=>[.sl none 9 a,.own 0,.int .i64 b]
def bZ:Pt->List aZ
 | .p0 a b c=>[.row 9 c]
def step (J:Pt->aK):Pt->aK
 | .p0 a b c=>(cond (decide (b<(a.length:Int))) (m2 b (a.length:Int) (m2 b (c.length:Int) (J (.p0 a (i64.wrap (b+1)) (List.set c (toNat b) [L.str (qk a (toNat b))]))))) (ret (c:aD)))
def start (J:Pt->aK)(x0:aD):aK:=(cm (decide ((0:Int)<=(x0.length:Int))) (cm (decide ((x0.length:Int)<=(x0.length:Int))) (cm (decide ((x0.length:Int)*16<=140737488355328)) (J (.p0 x0 0 (List.replicate (toNat (x0.length:Int)) [L.str ⟨#[]⟩]))))))
def live:Nat->Live:=fun i=>match i with | 3=>[(0,none),(3,none),(4,none)] | _=>[]
def md (a0:List aE):List aE:=a0
def gd (a0:List aE):Prop:=bO (2^36) (fun y:aE=>y.size<=(2^36)) a0
def R:=RR gd md
def aq {a0}(h:gd a0):R (a0.map cI)=some (a0.map cI):=aR (a:=a0) h
def aW:=CN [pL 9] (oL 9) RT.dec R
def bB (a0)(hg:gd a0):∃n,start (iter step n) (a0.map cI)=ret ((md a0).map cI):=by
 unfold start md
 simp only [List.length_map]
 refine iR (b:=16) (pt:=fun i c=>Pt.p0 (a0.map cI) (i:Int) c) (by have:=hg.1;simp at this;omega) (fun J i h c hc=>?_) (fun J c=>?_)
 ·simp only [step,MM,List.length_map,aL h,aJ,bq,cB,qe h,hc]
  rw [aI (n:=a0.length) h (by have:=hg.1;simp only [maxLen];simp at this;omega)]
  rfl
 ·simp only [step,List.length_map,dY,bA]
def af:cG 29 aW:=L1 22 pid cg bZ live step start mix aF bB .nil Tryz.func29
end Z30
namespace Z31
def F (x0:bf):aK:=(call (Z30.R x0.bH) fun v1=>ret ((⟨x0.bn,x0.bM,x0.cq,v1⟩:bf):bf))
def md (a0:ah):ah:=a0
def gd (a0:ah):Prop:=ah.Sm (2^36) a0
def R:=RR gd md
def aq {a0}(h:gd a0):R (ah.r a0)=some (ah.r a0):=aR (a:=a0) h
def aW:=CN [.agg Az] (.agg f61) RT.dec R
def bB (a0)(hg:gd a0):F (ah.r a0)=ret (ah.r (md a0)):=by
 unfold md
 show (call (Z30.R (a0.bH.map cI)) fun v1=>ret ((⟨a0.bn,a0.bM,a0.cq,v1⟩:bf):bf))=_
 rw [call_eq (Z30.aq hg.2)]
 rfl
def af:cG 498 aW:=W1 18 F mix aF bB (.cons Z30.af .nil) Tryz.func498
end Z31
namespace Z32
inductive Pt where
 | p0 (a:aD) (b:Int) (c:aD)
def pid:Pt->Nat
 | .p0 ..=>3
def cg:Pt->List V
 | .p0 a b c=>[.sl none 357 a,.own 0,.int .i64 b]
def bZ:Pt->List aZ
 | .p0 a b c=>[.row 61 c]
def step (J:Pt->aK):Pt->aK
 | .p0 a b c=>(cond (decide (b<(a.length:Int))) (m2 b (a.length:Int) (call (Z31.R (bf.at a (toNat b))) fun v1=>(m2 b (c.length:Int) (J (.p0 a (i64.wrap (b+1)) (List.set c (toNat b) (bf.enc v1))))))) (ret (c:aD)))
def start (J:Pt->aK)(x0:aD):aK:=(cm (decide ((0:Int)<=(x0.length:Int))) (cm (decide ((x0.length:Int)<=(x0.length:Int))) (cm (decide ((x0.length:Int)*56<=140737488355328)) (J (.p0 x0 0 (List.replicate (toNat (x0.length:Int)) [L.str ⟨#[]⟩,L.int 0,L.int 0,L.sl []]))))))
def live:Nat->Live:=fun i=>match i with | 3=>[(0,none),(3,none),(4,none)] | _=>[]
def md (a0:List ah):List ah:=a0
def gd (a0:List ah):Prop:=bO (2^36) (fun y:ah=>ah.Sm (2^36) y) a0
def R:=RR gd md
def aq {a0}(h:gd a0):R (a0.map ah.row)=some (a0.map ah.row):=aR (a:=a0) h
def aW:=CN [pL 357] (oL 61) RT.dec R
def bB (a0)(hg:gd a0):∃n,start (iter step n) (a0.map ah.row)=ret ((md a0).map ah.row):=by
 unfold start md
 simp only [List.length_map]
 refine iR (b:=56) (pt:=fun i c=>Pt.p0 (a0.map ah.row) (i:Int) c) (by have:=hg.1;simp at this;omega) (fun J i h c hc=>?_) (fun J c=>?_)
 ·simp only [step,MM,List.length_map,aL h,aJ,bq,cB,ah.ec h,hc]
  rw [call_eq (Z31.aq (hg.get h))]
  try simp only [hc,aL h,bq]
  rw [aI (n:=a0.length) h (by have:=hg.1;simp only [maxLen];simp at this;omega)]
  rfl
 ·simp only [step,List.length_map,dY,bA]
def af:cG 491 aW:=L1 23 pid cg bZ live step start mix aF bB (.cons Z31.af .nil) Tryz.func491
end Z32
namespace Z33
def F (x0:dS):aK:=(call (Z25.R x0.aU) fun v1=>(call (Z32.R x0.bP) fun v2=>ret ((⟨v1,v2⟩:dS):dS)))
def md (a0:aN):aN:=a0
def gd (a0:aN):Prop:=aN.Sm (2^36) a0
def R:=RR gd md
def aq {a0}(h:gd a0):R (aN.r a0)=some (aN.r a0):=aR (a:=a0) h
def aW:=CN [.agg AV] (.agg f293) RT.dec R
def bB (a0)(hg:gd a0):F (aN.r a0)=ret (aN.r (md a0)):=by
 unfold md
 show (call (Z25.R (a0.aU.map aa.row)) fun v1=>(call (Z32.R (a0.bP.map ah.row)) fun v2=>ret ((⟨v1,v2⟩:dS):dS)))=_
 rw [call_eq (Z25.aq hg.1)]
 rw [call_eq (Z32.aq hg.2)]
 rfl
def af:cG 425 aW:=W1 13 F mix aF bB (.cons Z25.af (.cons Z32.af .nil)) Tryz.func425
end Z33
namespace Z34
inductive Pt where
 | p0 (a:aD) (b:Int) (c:aD)
def pid:Pt->Nat
 | .p0 ..=>3
def cg:Pt->List V
 | .p0 a b c=>[.sl none 423 a,.own 0,.int .i64 b]
def bZ:Pt->List aZ
 | .p0 a b c=>[.row 293 c]
def step (J:Pt->aK):Pt->aK
 | .p0 a b c=>(cond (decide (b<(a.length:Int))) (m2 b (a.length:Int) (call (Z33.R (dS.at a (toNat b))) fun v1=>(m2 b (c.length:Int) (J (.p0 a (i64.wrap (b+1)) (List.set c (toNat b) (dS.enc v1))))))) (ret (c:aD)))
def start (J:Pt->aK)(x0:aD):aK:=(cm (decide ((0:Int)<=(x0.length:Int))) (cm (decide ((x0.length:Int)<=(x0.length:Int))) (cm (decide ((x0.length:Int)*48<=140737488355328)) (J (.p0 x0 0 (List.replicate (toNat (x0.length:Int)) [L.sl [],L.sl []]))))))
def live:Nat->Live:=fun i=>match i with | 3=>[(0,none),(3,none),(4,none)] | _=>[]
def md (a0:List aN):List aN:=a0
def gd (a0:List aN):Prop:=bO (2^36) (fun y:aN=>aN.Sm (2^36) y) a0
def R:=RR gd md
def aq {a0}(h:gd a0):R (a0.map aN.row)=some (a0.map aN.row):=aR (a:=a0) h
def aW:=CN [pL 423] (oL 293) RT.dec R
def bB (a0)(hg:gd a0):∃n,start (iter step n) (a0.map aN.row)=ret ((md a0).map aN.row):=by
 unfold start md
 simp only [List.length_map]
 refine iR (b:=48) (pt:=fun i c=>Pt.p0 (a0.map aN.row) (i:Int) c) (by have:=hg.1;simp at this;omega) (fun J i h c hc=>?_) (fun J c=>?_)
 ·simp only [step,MM,List.length_map,aL h,aJ,bq,cB,aN.ec h,hc]
  rw [call_eq (Z33.aq (hg.get h))]
  try simp only [hc,aL h,bq]
  rw [aI (n:=a0.length) h (by have:=hg.1;simp only [maxLen];simp at this;omega)]
  rfl
 ·simp only [step,List.length_map,dY,bA]
def af:cG 326 aW:=L1 23 pid cg bZ live step start mix aF bB (.cons Z33.af .nil) Tryz.func326
end Z34
namespace Z35
def F (x0:cR):aK:=(call (Z34.R x0.bK) fun v1=>ret ((⟨v1,x0.gS⟩:cR):cR))
def md (a0:av):av:=a0
def gd (a0:av):Prop:=av.Sm (2^36) a0
def R:=RR gd md
def aq {a0}(h:gd a0):R (av.r a0)=some (av.r a0):=aR (a:=a0) h
def aW:=CN [.agg AA] (.agg f227) RT.dec R
def bB (a0)(hg:gd a0):F (av.r a0)=ret (av.r (md a0)):=by
 unfold md
 show (call (Z34.R (a0.bK.map aN.row)) fun v1=>ret ((⟨v1,a0.gS⟩:cR):cR))=_
 rw [call_eq (Z34.aq hg)]
 rfl
def af:cG 168 aW:=W1 12 F mix aF bB (.cons Z34.af .nil) Tryz.func168
end Z35
namespace Z36
inductive Pt where
 | p0 (a:aD) (b:Int) (c:aD)
def pid:Pt->Nat
 | .p0 ..=>3
def cg:Pt->List V
 | .p0 a b c=>[.sl none 218 a,.own 0,.int .i64 b]
def bZ:Pt->List aZ
 | .p0 a b c=>[.row 227 c]
def step (J:Pt->aK):Pt->aK
 | .p0 a b c=>(cond (decide (b<(a.length:Int))) (m2 b (a.length:Int) (call (Z35.R (cR.at a (toNat b))) fun v1=>(m2 b (c.length:Int) (J (.p0 a (i64.wrap (b+1)) (List.set c (toNat b) (cR.enc v1))))))) (ret (c:aD)))
def start (J:Pt->aK)(x0:aD):aK:=(cm (decide ((0:Int)<=(x0.length:Int))) (cm (decide ((x0.length:Int)<=(x0.length:Int))) (cm (decide ((x0.length:Int)*32<=140737488355328)) (J (.p0 x0 0 (List.replicate (toNat (x0.length:Int)) [L.sl [],L.int 0]))))))
def live:Nat->Live:=fun i=>match i with | 3=>[(0,none),(3,none),(4,none)] | _=>[]
def md (a0:List av):List av:=a0
def gd (a0:List av):Prop:=bO (2^36) (fun y:av=>av.Sm (2^36) y) a0
def R:=RR gd md
def aq {a0}(h:gd a0):R (a0.map av.row)=some (a0.map av.row):=aR (a:=a0) h
def aW:=CN [pL 218] (oL 227) RT.dec R
def bB (a0)(hg:gd a0):∃n,start (iter step n) (a0.map av.row)=ret ((md a0).map av.row):=by
 unfold start md
 simp only [List.length_map]
 refine iR (b:=32) (pt:=fun i c=>Pt.p0 (a0.map av.row) (i:Int) c) (by have:=hg.1;simp at this;omega) (fun J i h c hc=>?_) (fun J c=>?_)
 ·simp only [step,MM,List.length_map,aL h,aJ,bq,cB,av.ec h,hc]
  rw [call_eq (Z35.aq (hg.get h))]
  try simp only [hc,aL h,bq]
  rw [aI (n:=a0.length) h (by have:=hg.1;simp only [maxLen];simp at this;omega)]
  rfl
 ·simp only [step,List.length_map,dY,bA]
def af:cG 27 aW:=L1 23 pid cg bZ live step start mix aF bB (.cons Z35.af .nil) Tryz.func27
end Z36
namespace Z37
def F (x0:bk):aK:=ret (x0:bk)
def md (a0:bk):bk:=a0
def gd (a0:bk):Prop:=bk.Sm (2^36) a0
def R:=RR gd md
def aq {a0}(h:gd a0):R a0=some a0:=aR (a:=a0) h
def aW:=CN [.agg Ar] (.agg f222) RT.dec R
def bB (a0)(hg:gd a0):F a0=ret (md a0):=by
 unfold md
 show ret (a0:bk)=_
 rfl
def af:cG 169 aW:=W1 11 F mix aF bB .nil Tryz.func169
end Z37
namespace Z38
inductive Pt where
 | p0 (a:aD) (b:Int) (c:aD)
def pid:Pt->Nat
 | .p0 ..=>3
def cg:Pt->List V
 | .p0 a b c=>[.sl none 220 a,.own 0,.int .i64 b]
def bZ:Pt->List aZ
 | .p0 a b c=>[.row 222 c]
def step (J:Pt->aK):Pt->aK
 | .p0 a b c=>(cond (decide (b<(a.length:Int))) (m2 b (a.length:Int) (call (Z37.R (bk.at a (toNat b))) fun v1=>(m2 b (c.length:Int) (J (.p0 a (i64.wrap (b+1)) (List.set c (toNat b) (bk.enc v1))))))) (ret (c:aD)))
def start (J:Pt->aK)(x0:aD):aK:=(cm (decide ((0:Int)<=(x0.length:Int))) (cm (decide ((x0.length:Int)<=(x0.length:Int))) (cm (decide ((x0.length:Int)*24<=140737488355328)) (J (.p0 x0 0 (List.replicate (toNat (x0.length:Int)) [L.str ⟨#[]⟩,L.int 0]))))))
def live:Nat->Live:=fun i=>match i with | 3=>[(0,none),(3,none),(4,none)] | _=>[]
def md (a0:List bk):List bk:=a0
def gd (a0:List bk):Prop:=bO (2^36) (fun y:bk=>bk.Sm (2^36) y) a0
def R:=RR gd md
def aq {a0}(h:gd a0):R (a0.map bk.row)=some (a0.map bk.row):=aR (a:=a0) h
def aW:=CN [pL 220] (oL 222) RT.dec R
def bB (a0)(hg:gd a0):∃n,start (iter step n) (a0.map bk.row)=ret ((md a0).map bk.row):=by
 unfold start md
 simp only [List.length_map]
 refine iR (b:=24) (pt:=fun i c=>Pt.p0 (a0.map bk.row) (i:Int) c) (by have:=hg.1;simp at this;omega) (fun J i h c hc=>?_) (fun J c=>?_)
 ·simp only [step,MM,List.length_map,aL h,aJ,bq,cB,bk.ec h,hc]
  rw [call_eq (Z37.aq (hg.get h))]
  try simp only [hc,aL h,bq]
  rw [aI (n:=a0.length) h (by have:=hg.1;simp only [maxLen];simp at this;omega)]
  rfl
 ·simp only [step,List.length_map,dY,bA]
def af:cG 28 aW:=L1 23 pid cg bZ live step start mix aF bB (.cons Z37.af .nil) Tryz.func28
end Z38
namespace Z39
def F (x0:bF):aK:=(cm (ff ((x0.aX.length:Int)*8)) (ret (x0:bF)))
def md (a0:aO):aO:=a0
def gd (a0:aO):Prop:=(aO.Sm (2^21) a0)
def R:=RR gd md
def aq {a0}(h:gd a0):R (aO.r a0)=some (aO.r a0):=aR (a:=a0) h
def aW:=CN [.agg pZ] (.agg f98) RT.dec R
def bB (a0)(hg:gd a0):F (aO.r a0)=ret (aO.r (md a0)):=by
 unfold gd at hg
 have H0:=hg
 unfold F md
 try simp only [SS]
 refine ak (have:=(H0).1;lm) ?_
 all_goals exact fz
def af:cG 352 aW:=W1 10 F mix aF bB .nil Tryz.func352
end Z39
namespace Z40
def F (x0:ck):aK:=(call (Z39.R x0.bQ) fun v1=>(call (Z39.R x0.bE) fun v2=>(call (Z39.R x0.bC) fun v3=>ret ((⟨x0.bz,x0.cN,x0.bM,x0.cK,x0.cF,x0.cz,x0.dm,x0.dH,v1,v2,x0.dw,v3,x0.bG⟩:ck):ck))))
def md (a0:aG):aG:=a0
def gd (a0:aG):Prop:=(aG.Sm (2^21) a0)
def R:=RR gd md
def aq {a0}(h:gd a0):R (aG.r a0)=some (aG.r a0):=aR (a:=a0) h
def aW:=CN [.agg gi] (.agg f102) RT.dec R
def bB (a0)(hg:gd a0):F (aG.r a0)=ret (aG.r (md a0)):=by
 unfold gd at hg
 have H0:=hg
 unfold F md
 try simp only [SS]
 refine ct (Z39.aq H0.1) ?_
 try simp only [SS]
 refine ct (Z39.aq H0.2.1) ?_
 try simp only [SS]
 refine ct (Z39.aq H0.2.2) ?_
 try simp only [SS]
 all_goals exact fz
def af:cG 222 aW:=W1 18 F mix aF bB (.cons Z39.af .nil) Tryz.func222
end Z40
namespace Z41
def F (x0:aT):aK:=(call (Z40.R x0.au) fun v1=>(cm (ff ((x0.cw.length:Int)*16)) (ret ((⟨v1,x0.cw⟩:aT):aT))))
def md (a0:aa):aa:=a0
def gd (a0:aa):Prop:=(aa.Sm (2^21) a0)
def R:=RR gd md
def aq {a0}(h:gd a0):R (aa.r a0)=some (aa.r a0):=aR (a:=a0) h
def aW:=CN [.agg kT] (.agg f123) RT.dec R
def bB (a0)(hg:gd a0):F (aa.r a0)=ret (aa.r (md a0)):=by
 unfold gd at hg
 have H0:=hg
 unfold F md
 try simp only [SS]
 refine ct (Z40.aq H0.1) ?_
 try simp only [SS]
 refine ak (have:=(H0.2).1;lm) ?_
 all_goals exact fz
def af:cG 367 aW:=W1 11 F mix aF bB (.cons Z40.af .nil) Tryz.func367
end Z41
namespace Z42
inductive Pt where
 | p0 (a:aD) (b:Int) (c:aD)
def pid:Pt->Nat
 | .p0 ..=>3
def cg:Pt->List V
 | .p0 a b c=>[.sl none 123 a,.own 0,.int .i64 b]
def bZ:Pt->List aZ
 | .p0 a b c=>[.row 123 c]
def step (J:Pt->aK):Pt->aK
 | .p0 a b c=>(cond (decide (b<(a.length:Int))) (m2 b (a.length:Int) (call (Z41.R (aT.at a (toNat b))) fun v1=>(cm (ff (((c.length:Int)+1)*200)) (J (.p0 a (i64.wrap (b+1)) (c++[(aT.enc v1)])))))) (ret (c:aD)))
def start (J:Pt->aK)(x0:aD):aK:=J (.p0 x0 0 [])
def live:Nat->Live:=fun i=>match i with | 3=>[(0,none),(3,some 123),(4,none)] | _=>[]
def md (a0:List aa):List aa:=a0
def gd (a0:List aa):Prop:=(bO (2^21) (fun y:aa=>aa.Sm (2^21) y) a0)
def R:=RR gd md
def aq {a0}(h:gd a0):R (a0.map aa.row)=some (a0.map aa.row):=aR (a:=a0) h
def aW:=CN [pL 123] (oL 123) RT.dec R
def bB (a0)(hg:gd a0):∃n,start (iter step n) (a0.map aa.row)=ret ((md a0).map aa.row):=by
 unfold gd at hg
 have H0:=hg
 unfold start md
 try simp only [SS]
 have Bh2:a0.length<=maxLen:=(by
   have:=(H0).1
   try simp only [maxLen] at *
   omega)
 refine ex_eq (out:=(fun b:List aa=>ret ((b.map aa.row):aD))) (iM (xs:=a0) (z:=aa.zero) (t:=fun s3:List aa=>s3)) ?_
 refine dR (p:=Pt.p0 (a0.map aa.row) 0 ([].map aa.row)) fz ?_
 refine cu (pt:=fun (i1:Nat) (s3:List aa)=>Pt.p0 (a0.map aa.row) (i1:Int) (s3.map aa.row)) (s:=([]:List aa)) (out:=(fun b:List aa=>ret ((b.map aa.row):aD))) (fun (i1:Nat) (s3:List aa)=>s3.length<=([]:List Int).length+1*i1) (fun J i1 s3 h2 hih2=>?_) (fun s3 hih2=>?_) (by simp)
 ·simp only [step,SS]
  have gr_:=hih2
  try simp only [LN] at gr_
  have bb_:=Bh2
  simp only [maxLen] at bb_
  have:=(H0).1
  refine bD.yes (by apply decide_eq_true;omega) ?_
  refine bD.yes aJ ?_
  refine bD.yes (aL h2) ?_
  refine cr (Z41.aq (bO.getD (z:=aa.zero) H0 h2)) ?_
  try simp only [SS]
  refine bD.yes lm ?_
  refine bD.inl (by
    have g_:=hih2
    try simp only [LN] at g_ ⊢
    first | omega | (simp;done) | (simp;omega)) ?_
  rw [aI h2 Bh2]
  all_goals exact fz
 ·simp only [step,SS]
  have gr_:=hih2
  try simp only [LN] at gr_
  have:=(H0).1
  refine dF (by apply decide_eq_false;omega) ?_
  refine ⟨0,?_⟩
  all_goals exact fz
def af:cG 244 aW:=L1 21 pid cg bZ live step start mix aF bB (.cons Z41.af .nil) Tryz.func244
end Z42
namespace Z43
def F (x0:bL):aK:=(call (Z41.R x0.aS) fun v1=>(call (Z41.R x0.fA) fun v2=>(call (Z41.R x0.fB) fun v3=>ret ((⟨v1,v2,v3⟩:bL):bL))))
def md (a0:aB):aB:=a0
def gd (a0:aB):Prop:=(aB.Sm (2^21) a0)
def R:=RR gd md
def aq {a0}(h:gd a0):R (aB.r a0)=some (aB.r a0):=aR (a:=a0) h
def aW:=CN [.agg sV] (.agg f280) RT.dec R
def bB (a0)(hg:gd a0):F (aB.r a0)=ret (aB.r (md a0)):=by
 unfold gd at hg
 have H0:=hg
 unfold F md
 try simp only [SS]
 refine ct (Z41.aq H0.1) ?_
 try simp only [SS]
 refine ct (Z41.aq H0.2.1) ?_
 try simp only [SS]
 refine ct (Z41.aq H0.2.2) ?_
 try simp only [SS]
 all_goals exact fz
def af:cG 323 aW:=W1 13 F mix aF bB (.cons Z41.af .nil) Tryz.func323
end Z43
namespace Z44
inductive Pt where
 | p0 (a:Int) (b:bt) (c:aD)
 | p1 (a:Int) (b:bt) (c d:aD)
def pid:Pt->Nat
 | .p0 ..=>3
 | .p1 ..=>7
def cg:Pt->List V
 | .p0 a b c=>[.dy 0 0,.dy 1 0,.dy 2 0,.int .i64 a,.dy 2 0]
 | .p1 a b c d=>[.dy 0 0,.dy 1 0,.dy 2 0,.int .i64 a,.dy 2 0,.dy 2 0]
def bZ:Pt->List aZ
 | .p0 a b c=>[.box [.sl none 92 b.aH,.sl none 280 b.aY],.box [.nil,.nil],.box [.own 3,.nil],.row 92 c]
 | .p1 a b c d=>[.box [.sl none 92 b.aH,.sl none 280 b.aY],.box [.nil,.nil],.box [.own 3,.own 4],.row 92 c,.row 280 d]
def step (J:Pt->aK):Pt->aK
 | .p0 a b c=>(cond (decide (a<(b.aH.length:Int))) (m2 a (b.aH.length:Int) (call (Z42.R (oT b.aH (toNat a))) fun v1=>(cm (ff (((c.length:Int)+1)*24)) (J (.p0 (i64.wrap (a+1)) b (c++[[L.sl v1]])))))) (J (.p1 0 b c [])))
 | .p1 a b c d=>(cond (decide (a<(b.aY.length:Int))) (m2 a (b.aY.length:Int) (call (Z43.R (bL.at b.aY (toNat a))) fun v1=>(cm (ff (((d.length:Int)+1)*600)) (J (.p1 (i64.wrap (a+1)) b c (d++[(bL.enc v1)])))))) (ret ((⟨c,d⟩:bt):bt)))
def start (J:Pt->aK)(x0:bt):aK:=J (.p0 0 x0 [])
def live:Nat->Live:=fun i=>match i with | 3=>[(1,none),(2,none),(3,none),(4,none),(3,some 92)] | 7=>[(1,none),(2,none),(3,none),(5,none),(3,some 92),(3,some 1048856)] | _=>[]
def md (a0:aj):aj:=a0
def gd (a0:aj):Prop:=(aj.Sm (2^21) a0)
def R:=RR gd md
def aq {a0}(h:gd a0):R (aj.r a0)=some (aj.r a0):=aR (a:=a0) h
def aW:=CN [.agg rU] (.agg f37) RT.dec R
def bB (a0)(hg:gd a0):∃n,start (iter step n) (aj.r a0)=ret (aj.r (md a0)):=by
 unfold gd at hg
 have H0:=hg
 unfold start md
 try simp only [SS]
 have Bh2:a0.aH.length<=maxLen:=(by
   have:=(H0.1).1
   try simp only [maxLen] at *
   omega)
 refine ex_eq (out:=(fun b:aj=>ret ((aj.r b):bt))) (iM (xs:=a0.aH) (z:=[]) (t:=fun s3:List (List aa)=>(⟨s3,a0.aY⟩:aj))) ?_
 refine dR (p:=Pt.p0 0 (aj.r a0) ([].map (dO aa.row))) fz ?_
 refine cu (pt:=fun (i1:Nat) (s3:List (List aa))=>Pt.p0 (i1:Int) (aj.r a0) (s3.map (dO aa.row))) (s:=([]:List (List aa))) (out:=(fun b:aj=>ret ((aj.r b):bt))) (fun (i1:Nat) (s3:List (List aa))=>s3.length<=([]:List Int).length+1*i1) (fun J i1 s3 h2 hih2=>?_) (fun s3 hih2=>?_) (by simp)
 ·simp only [step,SS]
  have gr_:=hih2
  try simp only [LN] at gr_
  have bb_:=Bh2
  simp only [maxLen] at bb_
  have:=(H0.1).1
  refine bD.yes (by apply decide_eq_true;omega) ?_
  refine bD.yes aJ ?_
  refine bD.yes (aL h2) ?_
  refine cr (Z42.aq (bO.getD (z:=[]) H0.1 h2)) ?_
  try simp only [SS]
  refine bD.yes lm ?_
  refine bD.inl (by
    have g_:=hih2
    try simp only [LN] at g_ ⊢
    first | omega | (simp;done) | (simp;omega)) ?_
  rw [aI h2 Bh2]
  all_goals exact fz
 ·simp only [step,SS]
  have gr_:=hih2
  try simp only [LN] at gr_
  have:=(H0.1).1
  refine dF (by apply decide_eq_false;omega) ?_
  have Bh5:a0.aY.length<=maxLen:=(by
    have:=(H0.2).1
    try simp only [maxLen] at *
    omega)
  refine ex_eq (out:=(fun b:aj=>ret ((aj.r b):bt))) (iM (xs:=a0.aY) (z:=aB.zero) (t:=fun s6:List aB=>(⟨s3,s6⟩:aj))) ?_
  refine dR (p:=Pt.p1 0 (aj.r a0) (s3.map (dO aa.row)) ([].map aB.row)) fz ?_
  refine cu (pt:=fun (i4:Nat) (s6:List aB)=>Pt.p1 (i4:Int) (aj.r a0) (s3.map (dO aa.row)) (s6.map aB.row)) (s:=([]:List aB)) (out:=(fun b:aj=>ret ((aj.r b):bt))) (fun (i4:Nat) (s6:List aB)=>s6.length<=([]:List Int).length+1*i4) (fun J i4 s6 h5 hih5=>?_) (fun s6 hih5=>?_) (by simp)
  ·simp only [step,SS]
   have gr_:=hih5
   try simp only [LN] at gr_
   have bb_:=Bh5
   simp only [maxLen] at bb_
   have:=(H0.2).1
   refine bD.yes (by apply decide_eq_true;omega) ?_
   refine bD.yes aJ ?_
   refine bD.yes (aL h5) ?_
   refine cr (Z43.aq (bO.getD (z:=aB.zero) H0.2 h5)) ?_
   try simp only [SS]
   refine bD.yes lm ?_
   refine bD.inl (by
     have g_:=hih5
     try simp only [LN] at g_ ⊢
     first | omega | (simp;done) | (simp;omega)) ?_
   rw [aI h5 Bh5]
   all_goals exact fz
  ·simp only [step,SS]
   have gr_:=hih5
   try simp only [LN] at gr_
   have:=(H0.2).1
   refine dF (by apply decide_eq_false;omega) ?_
   refine ⟨0,?_⟩
   all_goals exact fz
def af:cG 165 aW:=L1 44 pid cg bZ live step start mix aF bB (.cons Z42.af (.cons Z43.af .nil)) Tryz.func165
end Z44
namespace Z45
def F (x0 x1 x2:Int):aK:=(cond (decide (x0>=x1)) (ret ((decide (x0<=x2)):Bool)) bh)
def md (a0 a1 a2:Int):Bool:=(cond (decide (a0>=a1)) ((decide (a0<=a2)):Bool) (false:Bool))
def gd (a0 a1 a2:Int):Prop:=True
def R:=RR (p3 gd) (u3 md)
def aq {a0 a1 a2}(h:gd a0 a1 a2):R (a0,a1,a2)=some (md a0 a1 a2):=aR (a:=(a0,a1,a2)) h
def aW:=CN [pI,pI,pI] oB RT.dec R
def bB (a0)(a1)(a2)(hg:gd a0 a1 a2):F a0 a1 a2=ret (md a0 a1 a2):=by
 unfold F md
 try simp only [SS]
 refine ay ret (fun c1=>?_) (fun _=>rfl)
 all_goals exact fz
def af:cG 224 aW:=W3 15 F mix aF bB .nil Tryz.func224
end Z45
namespace Z46
inductive Pt where
 | p0 (a:aE) (b:Int)
def pid:Pt->Nat
 | .p0 ..=>4
def cg:Pt->List V
 | .p0 a b=>[.str a,.int .i64 b]
def bZ:Pt->List aZ
 | .p0 a b=>[]
def step (J:Pt->aK):Pt->aK
 | .p0 a b=>(cond (decide (b<(a.size:Int))) (m2 b (a.size:Int) (cond (decide ((eB a (toNat b))<97)) (m2 b (a.size:Int) (cond (decide ((eB a (toNat b))<48)) (m2 b (a.size:Int) (cond ((eB a (toNat b)) != 45) bh (J (.p0 a (i64.wrap (b+1)))))) (m2 b (a.size:Int) (cond (decide ((eB a (toNat b))>57)) (m2 b (a.size:Int) (cond ((eB a (toNat b)) != 45) bh (J (.p0 a (i64.wrap (b+1)))))) (J (.p0 a (i64.wrap (b+1)))))))) (m2 b (a.size:Int) (cond (decide ((eB a (toNat b))>122)) (m2 b (a.size:Int) (cond (decide ((eB a (toNat b))<48)) (m2 b (a.size:Int) (cond ((eB a (toNat b)) != 45) bh (J (.p0 a (i64.wrap (b+1)))))) (m2 b (a.size:Int) (cond (decide ((eB a (toNat b))>57)) (m2 b (a.size:Int) (cond ((eB a (toNat b)) != 45) bh (J (.p0 a (i64.wrap (b+1)))))) (J (.p0 a (i64.wrap (b+1)))))))) (J (.p0 a (i64.wrap (b+1)))))))) eF)
def start (J:Pt->aK)(x0:aE):aK:=(call (Z45.R ((x0.size:Int),1,8)) fun v1=>(cond (!v1) bh (cm (decide ((0:Int)<(x0.size:Int))) (cond ((eB x0 0)==45) bh (cm (decide ((0:Int)<=(i64.wrap ((x0.size:Int) - 1)))) (cm (decide ((i64.wrap ((x0.size:Int) - 1))<(x0.size:Int))) (cond ((eB x0 (toNat (i64.wrap ((x0.size:Int) - 1))))==45) bh (J (.p0 x0 0)))))))))
def live:Nat->Live:=fun i=>match i with | 4=>[(0,none),(3,none)] | _=>[]
def md (a0:aE):Bool:=(bif (!(Z45.md (a0.size:Int) 1 8)) then (false:Bool) else (bif ((eB a0 0)==45) then (false:Bool) else (bif ((eB a0 (toNat (i64.wrap ((a0.size:Int) - 1))))==45) then (false:Bool) else (eC (S:=Unit) (β:=Bool) (fun (i4:Nat) (s6:Unit)=>(cond (decide ((eB a0 i4)<97)) (cond (decide ((eB a0 i4)<48)) (cond ((eB a0 i4) != 45) (.inr (false:Bool)) (.inl ())) (cond (decide ((eB a0 i4)>57)) (cond ((eB a0 i4) != 45) (.inr (false:Bool)) (.inl ())) (.inl ()))) (cond (decide ((eB a0 i4)>122)) (cond (decide ((eB a0 i4)<48)) (cond ((eB a0 i4) != 45) (.inr (false:Bool)) (.inl ())) (cond (decide ((eB a0 i4)>57)) (cond ((eB a0 i4) != 45) (.inr (false:Bool)) (.inl ())) (.inl ()))) (.inl ())))) (fun (s6:Unit)=>(true:Bool)) a0.size 0 ()))))
def gd (a0:aE):Prop:=(a0.size<=(2^22))
def R:=RR gd md
def aq {a0}(h:gd a0):R a0=some (md a0):=aR (a:=a0) h
def aW:=CN [pS] oB RT.dec R
def bB (a0)(hg:gd a0):∃n,start (iter step n) a0=ret (md a0):=by
 unfold gd at hg
 have H0:=hg
 unfold start md
 try simp only [SS]
 refine cx (Z45.aq trivial) ?_
 refine hU ret (fun _=>⟨0,rfl⟩) (fun c1=>?_)
 have dc1:=c1
 try simp only [DC] at dc1
 have Dc1:=c1
 try simp [Z45.md] at Dc1
 refine dK (have:=H0;dt) ?_
 refine hU ret (fun _=>⟨0,rfl⟩) (fun c2=>?_)
 have dc2:=c2
 try simp only [DC] at dc2
 refine dK (have:=H0;dt) ?_
 refine dK (have:=H0;dt) ?_
 refine hU ret (fun _=>⟨0,rfl⟩) (fun c3=>?_)
 have dc3:=c3
 try simp only [DC] at dc3
 have Bh5:a0.size<=maxLen:=(by
   have:=H0
   try simp only [maxLen] at *
   omega)
 refine dR (p:=Pt.p0 a0 0) fz ?_
 refine cu (pt:=fun (i4:Nat) (s6:Unit)=>Pt.p0 a0 (i4:Int)) (s:=(():Unit)) (out:=ret) (fun _ _=>True) (fun J i4 s6 h5 hih5=>?_) (fun s6 hih5=>?_) trivial
 ·simp only [step,SS]
  have bb_:=Bh5
  simp only [maxLen] at bb_
  have:=H0
  refine bD.yes (by apply decide_eq_true;omega) ?_
  refine bD.yes aJ ?_
  refine bD.yes (aL h5) ?_
  refine bD.bif (fun c7=>?_) (fun c7=>?_)
  ·refine bD.yes aJ ?_
   refine bD.yes (aL h5) ?_
   refine bD.bif (fun c8=>?_) (fun c8=>?_)
   ·refine bD.yes aJ ?_
    refine bD.yes (aL h5) ?_
    refine bD.bif (fun _=>bD.inr rfl) (fun c9=>?_)
    refine bD.inl trivial ?_
    rw [aI h5 Bh5]
    all_goals exact fz
   ·refine bD.yes aJ ?_
    refine bD.yes (aL h5) ?_
    refine bD.bif (fun c10=>?_) (fun c10=>?_)
    ·refine bD.yes aJ ?_
     refine bD.yes (aL h5) ?_
     refine bD.bif (fun _=>bD.inr rfl) (fun c11=>?_)
     refine bD.inl trivial ?_
     rw [aI h5 Bh5]
     all_goals exact fz
    ·refine bD.inl trivial ?_
     rw [aI h5 Bh5]
     all_goals exact fz
  ·refine bD.yes aJ ?_
   refine bD.yes (aL h5) ?_
   refine bD.bif (fun c12=>?_) (fun c12=>?_)
   ·refine bD.yes aJ ?_
    refine bD.yes (aL h5) ?_
    refine bD.bif (fun c13=>?_) (fun c13=>?_)
    ·refine bD.yes aJ ?_
     refine bD.yes (aL h5) ?_
     refine bD.bif (fun _=>bD.inr rfl) (fun c14=>?_)
     refine bD.inl trivial ?_
     rw [aI h5 Bh5]
     all_goals exact fz
    ·refine bD.yes aJ ?_
     refine bD.yes (aL h5) ?_
     refine bD.bif (fun c15=>?_) (fun c15=>?_)
     ·refine bD.yes aJ ?_
      refine bD.yes (aL h5) ?_
      refine bD.bif (fun _=>bD.inr rfl) (fun c16=>?_)
      refine bD.inl trivial ?_
      rw [aI h5 Bh5]
      all_goals exact fz
     ·refine bD.inl trivial ?_
      rw [aI h5 Bh5]
      all_goals exact fz
   ·refine bD.inl trivial ?_
    rw [aI h5 Bh5]
    all_goals exact fz
 ·simp only [step,SS]
  have:=H0
  refine dF (by apply decide_eq_false;omega) ?_
  refine ⟨0,?_⟩
  all_goals exact fz
def af:cG 308 aW:=L1 55 pid cg bZ live step start mix aF bB (.cons Z45.af .nil) Tryz.func308
def tr {a0:aE}(h:md a0=true):1<=a0.size/\a0.size<=8:=by
 unfold md at h
 cases e:Z45.md (a0.size:Int) 1 8
 ·rw [e] at h;cases h
 ·simp [Z45.md] at e;omega
end Z46
namespace Z47
inductive Pt where
 | p0 (a:aD) (b:Int)
def pid:Pt->Nat
 | .p0 ..=>2
def cg:Pt->List V
 | .p0 a b=>[.sl none 9 a,.int .i64 b]
def bZ:Pt->List aZ
 | .p0 a b=>[]
def step (J:Pt->aK):Pt->aK
 | .p0 a b=>(cond (decide (b<(a.length:Int))) (m2 b (a.length:Int) (call (Z46.R (qk a (toNat b))) fun v1=>(cond (!v1) bh (J (.p0 a (i64.wrap (b+1))))))) (call (Z45.R ((a.length:Int),1,4)) fun v2=>ret (v2:Bool)))
def start (J:Pt->aK)(x0:aD):aK:=J (.p0 x0 0)
def live:Nat->Live:=fun i=>match i with | 2=>[(0,none),(3,none)] | _=>[]
def md (a0:List aE):Bool:=(dW (S:=Unit) (β:=Bool) (fun (y1:aE) (s3:Unit)=>(cond (!(Z46.md y1)) (.inr (false:Bool)) (.inl ()))) (fun (s3:Unit)=>((Z45.md (a0.length:Int) 1 4):Bool)) a0 ())
def gd (a0:List aE):Prop:=(bO (2^22) (fun y:aE=>y.size<=(2^22)) a0)
def R:=RR gd md
def aq {a0}(h:gd a0):R (a0.map cI)=some (md a0):=aR (a:=a0) h
def aW:=CN [pL 9] oB RT.dec R
def bB (a0)(hg:gd a0):∃n,start (iter step n) (a0.map cI)=ret (md a0):=by
 unfold gd at hg
 have H0:=hg
 unfold start md
 try simp only [SS]
 have Bh2:a0.length<=maxLen:=(by
   have:=(H0).1
   try simp only [maxLen] at *
   omega)
 refine ex_eq (out:=ret) (eJ (z:=⟨#[]⟩)) ?_
 refine dR (p:=Pt.p0 (a0.map cI) 0) fz ?_
 refine cu (pt:=fun (i1:Nat) (s3:Unit)=>Pt.p0 (a0.map cI) (i1:Int)) (s:=(():Unit)) (out:=ret) (fun _ _=>True) (fun J i1 s3 h2 hih2=>?_) (fun s3 hih2=>?_) trivial
 ·simp only [step,SS]
  have bb_:=Bh2
  simp only [maxLen] at bb_
  have:=(H0).1
  refine bD.yes (by apply decide_eq_true;omega) ?_
  refine bD.yes aJ ?_
  refine bD.yes (aL h2) ?_
  refine cr (Z46.aq (bO.getD (z:=⟨#[]⟩) H0 h2)) ?_
  refine bD.bif (fun _=>bD.inr rfl) (fun c4=>?_)
  refine bD.inl trivial ?_
  rw [aI h2 Bh2]
  all_goals exact fz
 ·simp only [step,SS]
  have:=(H0).1
  refine dF (by apply decide_eq_false;omega) ?_
  refine cx (Z45.aq trivial) ?_
  refine ⟨0,?_⟩
  all_goals exact fz
def af:cG 132 aW:=L1 19 pid cg bZ live step start mix aF bB (.cons Z46.af (.cons Z45.af .nil)) Tryz.func132
def tr {a0:List aE}(h:md a0=true):(1<=a0.length/\a0.length<=4)/\∀x∈a0,x.size<=8:=by
 have e:=lV (p:=fun y=>!(Z46.md y)) (b:=false) (c:=Z45.md (a0.length:Int) 1 4) (xs:=a0) (s:=())
 rw [show md a0=_ from e] at h
 cases ha:a0.any (fun y=>!(Z46.md y))<;>rw [ha] at h
 ·have h2:Z45.md (a0.length:Int) 1 4=true:=h
  simp [Z45.md] at h2
  refine ⟨by omega,fun x hx=>?_⟩
  rw [List.any_eq_false] at ha
  have:=ha x hx
  exact (Z46.tr (by simpa using this)).2
 ·cases h
def tl {x:aE}{xs:List aE}(h:md (x::xs)=true)(hx:¬xs.length=0):md xs=true:=by
 have key:∀a:List aE,md a=bif a.any (fun y=>!(Z46.md y)) then false else Z45.md (a.length:Int) 1 4:=fun a=>lV (p:=fun y=>!(Z46.md y)) (b:=false) (c:=Z45.md (a.length:Int) 1 4) (xs:=a) (s:=())
 have t:=tr h
 simp only [List.length_cons] at t
 rw [key] at h ⊢
 rw [List.any_cons] at h
 cases h1:xs.any (fun y=>!(Z46.md y)) with
 | true=>rw [h1,Bool.or_true] at h;cases h
 | false=>simp [Z45.md];omega
end Z47
namespace Z48
def F (x0:aD):aK:=(cm (ff ((x0.length:Int)*16)) (ret (x0:aD)))
def md (a0:List aE):List aE:=a0
def gd (a0:List aE):Prop:=(bO (2^21) (fun y:aE=>y.size<=(2^21)) a0)
def R:=RR gd md
def aq {a0}(h:gd a0):R (a0.map cI)=some (a0.map cI):=aR (a:=a0) h
def aW:=CN [pL 9] (oL 9) RT.dec R
def bB (a0)(hg:gd a0):F (a0.map cI)=ret ((md a0).map cI):=by
 unfold gd at hg
 have H0:=hg
 unfold F md
 try simp only [SS]
 refine ak (have:=(H0).1;lm) ?_
 all_goals exact fz
def af:cG 208 aW:=W1 6 F mix aF bB .nil Tryz.func208
end Z48
namespace Z49
inductive Pt where
 | p0 (a:Int) (b:bF)
def pid:Pt->Nat
 | .p0 ..=>2
def cg:Pt->List V
 | .p0 a b=>[.dy 0 0,.int .i64 a]
def bZ:Pt->List aZ
 | .p0 a b=>[.box [.sl none 3 b.aX,.int .i64 b.cH]]
def step (J:Pt->aK):Pt->aK
 | .p0 a b=>(cond (decide (a<(b.aX.length:Int))) (m2 a (b.aX.length:Int) (call (Z45.R ((jG b.aX (toNat a)),1,99)) fun v1=>(cond (!v1) bh (cond (decide (a>0)) (cm (decide ((0:Int)<=(i64.wrap (a - 1)))) (cm (decide ((i64.wrap (a - 1))<(b.aX.length:Int))) (m2 a (b.aX.length:Int) (cond (decide ((jG b.aX (toNat (i64.wrap (a - 1))))>=(jG b.aX (toNat a)))) bh (J (.p0 (i64.wrap (a+1)) b)))))) (J (.p0 (i64.wrap (a+1)) b)))))) (call (Z45.R ((b.aX.length:Int),1,4)) fun v2=>(cond v2 (call (Z45.R (b.cH,1,(b.aX.length:Int))) fun v3=>ret (v3:Bool)) bh)))
def start (J:Pt->aK)(x0:bF):aK:=J (.p0 0 x0)
def live:Nat->Live:=fun i=>match i with | 2=>[(1,none),(3,none)] | _=>[]
def md (a0:aO):Bool:=(dJ (S:=Unit) (β:=Bool) (fun (i1:Nat) (y1:Int) (s3:Unit)=>(cond (!(Z45.md y1 1 99)) (.inr (false:Bool)) (cond (decide ((i1:Int)>0)) (cond (decide ((a0.aX.getD (toNat (i64.wrap ((i1:Int) - 1))) 0)>=y1)) (.inr (false:Bool)) (.inl ())) (.inl ())))) (fun (s3:Unit)=>(cond (Z45.md (a0.aX.length:Int) 1 4) ((Z45.md a0.cH 1 (a0.aX.length:Int)):Bool) (false:Bool))) 0 a0.aX ())
def gd (a0:aO):Prop:=(aO.Sm (2^21) a0)
def R:=RR gd md
def aq {a0}(h:gd a0):R (aO.r a0)=some (md a0):=aR (a:=a0) h
def aW:=CN [.agg pZ] oB RT.dec R
def bB (a0)(hg:gd a0):∃n,start (iter step n) (aO.r a0)=ret (md a0):=by
 unfold gd at hg
 have H0:=hg
 unfold start md
 try simp only [SS]
 have Bh2:a0.aX.length<=maxLen:=(by
   have:=(H0).1
   try simp only [maxLen] at *
   omega)
 refine ex_eq (out:=ret) (dc (z:=0)) ?_
 refine dR (p:=Pt.p0 0 (aO.r a0)) fz ?_
 refine cu (pt:=fun (i1:Nat) (s3:Unit)=>Pt.p0 (i1:Int) (aO.r a0)) (s:=(():Unit)) (out:=ret) (fun _ _=>True) (fun J i1 s3 h2 hih2=>?_) (fun s3 hih2=>?_) trivial
 ·simp only [step,SS]
  have bb_:=Bh2
  simp only [maxLen] at bb_
  have:=(H0).1
  refine bD.yes (by apply decide_eq_true;omega) ?_
  refine bD.yes aJ ?_
  refine bD.yes (aL h2) ?_
  refine cr (Z45.aq trivial) ?_
  refine bD.bif (fun _=>bD.inr rfl) (fun c4=>?_)
  have dc4:=c4
  try simp only [DC] at dc4
  have Dc4:=c4
  try simp [Z45.md] at Dc4
  refine bD.bif (fun c5=>?_) (fun c5=>?_)
  ·have dc5:=c5
   try simp only [DC] at dc5
   refine bD.yes dt ?_
   refine bD.yes (have:=(H0).1;dt) ?_
   refine bD.yes aJ ?_
   refine bD.yes (aL h2) ?_
   refine bD.bif (fun _=>bD.inr rfl) (fun c6=>?_)
   refine bD.inl trivial ?_
   rw [aI h2 Bh2]
   all_goals exact fz
  ·refine bD.inl trivial ?_
   rw [aI h2 Bh2]
   all_goals exact fz
 ·simp only [step,SS]
  have:=(H0).1
  refine dF (by apply decide_eq_false;omega) ?_
  refine cx (Z45.aq trivial) ?_
  refine hU ret (fun c7=>?_) (fun _=>⟨0,rfl⟩)
  refine cx (Z45.aq trivial) ?_
  refine ⟨0,?_⟩
  all_goals exact fz
def af:cG 514 aW:=L1 48 pid cg bZ live step start mix aF bB (.cons Z45.af .nil) Tryz.func514
def tr {a0:aO}(h:md a0=true):1<=a0.aX.length/\a0.aX.length<=4:=by
 refine Classical.byContradiction fun hc=>?_
 have e1:Z45.md (a0.aX.length:Int) 1 4=false:=by simp [Z45.md];omega
 unfold md at h
 rw [e1] at h
 have e2:∀s:Unit,(cond false (Z45.md a0.cH 1 (a0.aX.length:Int)) false)=false:=fun _=>rfl
 have h3:=lB (c:=false) (f:=fun (i1:Nat) (y1:Int) (s3:Unit)=>(cond (!(Z45.md y1 1 99)) (.inr (false:Bool)) (cond (decide ((i1:Int)>0)) (cond (decide ((a0.aX.getD (toNat (i64.wrap ((i1:Int) - 1))) 0)>=y1)) (.inr (false:Bool)) (.inl ())) (.inl ())))) (by
  intro i x s b h
  revert h
  simp only [Bool.cond_eq_ite]
  repeat' split
  all_goals (intro h;first | (cases h;rfl) | cases h)) a0.aX 0 ()
 simp only [bA] at h
 rw [h3] at h
 cases h
end Z49
namespace Z50
def F (x0:bF):aK:=(cond (x0.cH==0) (ret (((x0.aX.length:Int)==0):Bool)) bh)
def md (a0:aO):Bool:=(cond (a0.cH==0) (((a0.aX.length:Int)==0):Bool) (false:Bool))
def gd (a0:aO):Prop:=True
def R:=RR gd md
def aq {a0}(h:gd a0):R (aO.r a0)=some (md a0):=aR (a:=a0) h
def aW:=CN [.agg pZ] oB RT.dec R
def bB (a0)(hg:gd a0):F (aO.r a0)=ret (md a0):=by
 unfold F md
 try simp only [SS]
 refine ay ret (fun c1=>?_) (fun _=>rfl)
 all_goals exact fz
def af:cG 515 aW:=W1 12 F mix aF bB .nil Tryz.func515
end Z50
namespace Z51
def F (x0:ck):aK:=(call (Z45.R (x0.bz,0,2147483646)) fun v1=>(cond (!v1) bh (call (Z45.R (x0.dm,0,2147483646)) fun v2=>(cond (!v2) bh (call (Z45.R (x0.dH,0,2147483646)) fun v3=>(cond (!v3) bh (call (Z45.R (x0.cN,0,200)) fun v4=>(cond (!v4) bh (call (Z45.R (x0.bM,1,3)) fun v5=>(cond (!v5) bh (call (Z45.R (x0.cK,0,100000)) fun v6=>(cond (!v6) bh (call (Z45.R (x0.cF,x0.cK,100000)) fun v7=>(cond (!v7) bh (cond (decide ((i64.wrap (x0.cF - x0.cK))>200)) bh (call (Z45.R (x0.cz,0,12)) fun v8=>(cond (!v8) bh (call (Z49.R x0.bQ) fun v9=>(cond (!v9) bh (call (Z50.R x0.bE) fun v10=>(cond v10 (cond (x0.dw != 0) bh (call (Z49.R x0.bC) fun v11=>(cond v11 eF (call (Z50.R x0.bC) fun v12=>(cond v12 (ret ((!x0.bG):Bool)) bh))))) (call (Z49.R x0.bE) fun v13=>(cond (!v13) bh (call (Z45.R (x0.dw,1,500)) fun v14=>(cond (!v14) bh (call (Z49.R x0.bC) fun v15=>(cond v15 eF (call (Z50.R x0.bC) fun v16=>(cond v16 (ret ((!x0.bG):Bool)) bh)))))))))))))))))))))))))))))
def md (a0:aG):Bool:=(cond (!(Z45.md a0.bz 0 2147483646)) (false:Bool) (cond (!(Z45.md a0.dm 0 2147483646)) (false:Bool) (cond (!(Z45.md a0.dH 0 2147483646)) (false:Bool) (cond (!(Z45.md a0.cN 0 200)) (false:Bool) (cond (!(Z45.md a0.bM 1 3)) (false:Bool) (cond (!(Z45.md a0.cK 0 100000)) (false:Bool) (cond (!(Z45.md a0.cF a0.cK 100000)) (false:Bool) (cond (decide ((i64.wrap (a0.cF - a0.cK))>200)) (false:Bool) (cond (!(Z45.md a0.cz 0 12)) (false:Bool) (cond (!(Z49.md a0.bQ)) (false:Bool) (cond (Z50.md a0.bE) (cond (a0.dw != 0) (false:Bool) (cond (Z49.md a0.bC) (true:Bool) (cond (Z50.md a0.bC) ((!a0.bG):Bool) (false:Bool)))) (cond (!(Z49.md a0.bE)) (false:Bool) (cond (!(Z45.md a0.dw 1 500)) (false:Bool) (cond (Z49.md a0.bC) (true:Bool) (cond (Z50.md a0.bC) ((!a0.bG):Bool) (false:Bool))))))))))))))))
def gd (a0:aG):Prop:=(aG.Sm (2^21) a0)
def R:=RR gd md
def aq {a0}(h:gd a0):R (aG.r a0)=some (md a0):=aR (a:=a0) h
def aW:=CN [.agg gi] oB RT.dec R
def bB (a0)(hg:gd a0):F (aG.r a0)=ret (md a0):=by
 unfold gd at hg
 have H0:=hg
 unfold F md
 try simp only [SS]
 refine ct (Z45.aq trivial) ?_
 refine ay ret (fun _=>rfl) (fun c1=>?_)
 refine ct (Z45.aq trivial) ?_
 refine ay ret (fun _=>rfl) (fun c2=>?_)
 refine ct (Z45.aq trivial) ?_
 refine ay ret (fun _=>rfl) (fun c3=>?_)
 refine ct (Z45.aq trivial) ?_
 refine ay ret (fun _=>rfl) (fun c4=>?_)
 refine ct (Z45.aq trivial) ?_
 refine ay ret (fun _=>rfl) (fun c5=>?_)
 refine ct (Z45.aq trivial) ?_
 refine ay ret (fun _=>rfl) (fun c6=>?_)
 refine ct (Z45.aq trivial) ?_
 refine ay ret (fun _=>rfl) (fun c7=>?_)
 refine ay ret (fun _=>rfl) (fun c8=>?_)
 refine ct (Z45.aq trivial) ?_
 refine ay ret (fun _=>rfl) (fun c9=>?_)
 refine ct (Z49.aq H0.1) ?_
 refine ay ret (fun _=>rfl) (fun c10=>?_)
 refine ct (Z50.aq trivial) ?_
 refine ay ret (fun c11=>?_) (fun c11=>?_)
 ·refine ay ret (fun _=>rfl) (fun c12=>?_)
  refine ct (Z49.aq H0.2.2) ?_
  refine ay ret (fun _=>rfl) (fun c13=>?_)
  refine ct (Z50.aq trivial) ?_
  refine ay ret (fun c14=>?_) (fun _=>rfl)
  all_goals exact fz
 ·refine ct (Z49.aq H0.2.1) ?_
  refine ay ret (fun _=>rfl) (fun c15=>?_)
  refine ct (Z45.aq trivial) ?_
  refine ay ret (fun _=>rfl) (fun c16=>?_)
  refine ct (Z49.aq H0.2.2) ?_
  refine ay ret (fun _=>rfl) (fun c17=>?_)
  refine ct (Z50.aq trivial) ?_
  refine ay ret (fun c18=>?_) (fun _=>rfl)
  all_goals exact fz
def af:cG 438 aW:=W1 92 F mix aF bB (.cons Z45.af (.cons Z49.af (.cons Z50.af .nil))) Tryz.func438
def tr {a0:aG}(h:md a0=true):(1<=a0.bM/\a0.bM<=3)/\0<=a0.cK/\a0.cK<=a0.cF/\a0.cF<=100000/\0<=a0.cz/\a0.cz<=12:=by
 have key:∀x y z:Int,Z45.md x y z=true->y<=x/\x<=z:=fun x y z h=>by simpa [Z45.md] using h
 unfold md at h
 simp only [Bu,Bool.not_not,Bool.and_eq_true] at h
 obtain ⟨_,_,_,_,h5,h6,h7,_,h8,_⟩:=h
 have:=key _ _ _ h5
 have:=key _ _ _ h6
 have:=key _ _ _ h7
 have:=key _ _ _ h8
 omega
end Z51
namespace Z52
def F (x0:bF):aK:=(cm (ff (((2:Int)+(x0.aX.length:Int))*8)) (ret (([[L.int x0.cH],[L.int (x0.aX.length:Int)]]++x0.aX):aD)))
def md (a0:aO):List Int:=([a0.cH,(a0.aX.length:Int)]++a0.aX)
def gd (a0:aO):Prop:=(aO.Sm (2^21) a0)
def R:=RR gd md
def aq {a0}(h:gd a0):R (aO.r a0)=some ((md a0).map bu):=aR (a:=a0) h
def aW:=CN [.agg pZ] (oL 3) RT.dec R
def bB (a0)(hg:gd a0):F (aO.r a0)=ret ((md a0).map bu):=by
 unfold gd at hg
 have H0:=hg
 unfold F md
 try simp only [SS]
 refine ak (have:=(H0).1;lm) ?_
 all_goals exact fz
def af:cG 517 aW:=W1 12 F mix aF bB .nil Tryz.func517
def len (a0:aO):(md a0).length=2+a0.aX.length:=by simp [md];omega
end Z52
namespace Z53
def F (x0 x1:Int):aK:=(call (Z45.R (x1,1,1000000000000)) fun v1=>(cond (!v1) (ret (0:Int)) (cond (decide (x1=0)) none (cond (decide (x1=0)) none (ret ((Int.tmod (i64.wrap ((Int.tmod x0 x1)+x1)) x1):Int))))))
def md (a0 a1:Int):Int:=(cond (!(Z45.md a1 1 1000000000000)) (0:Int) ((Int.tmod (i64.wrap ((Int.tmod a0 a1)+a1)) a1):Int))
def gd (a0 a1:Int):Prop:=True
def R:=RR (p2 gd) (u2 md)
def aq {a0 a1}(h:gd a0 a1):R (a0,a1)=some (md a0 a1):=aR (a:=(a0,a1)) h
def aW:=CN [pI,pI] oI RT.dec R
def bB (a0)(a1)(hg:gd a0 a1):F a0 a1=ret (md a0 a1):=by
 unfold F md
 try simp only [SS]
 refine ct (Z45.aq trivial) ?_
 refine ay ret (fun _=>rfl) (fun c1=>?_)
 have dc1:=c1
 try simp only [DC] at dc1
 have Dc1:=c1
 try simp [Z45.md] at Dc1
 refine cM df ?_
 refine cM df ?_
 all_goals exact fz
def af:cG 567 aW:=W2 15 F mix aF bB (.cons Z45.af .nil) Tryz.func567
end Z53
namespace Z54
inductive Pt where
 | p0 (a:aD) (b c:Int)
def pid:Pt->Nat
 | .p0 ..=>3
def cg:Pt->List V
 | .p0 a b c=>[.sl none 3 a,.int .i64 b,.int .i64 c]
def bZ:Pt->List aZ
 | .p0 a b c=>[]
def step (J:Pt->aK):Pt->aK
 | .p0 a b c=>(cond (decide (c<(a.length:Int))) (m2 c (a.length:Int) (call (Z53.R ((jG a (toNat c)),2147483647)) fun v1=>J (.p0 a (Int.tmod (i64.wrap ((i64.wrap ((i64.wrap (b*1000003))+v1))+13)) 2147483647) (i64.wrap (c+1))))) (ret (b:Int)))
def start (J:Pt->aK)(x0:aD):aK:=J (.p0 x0 11 0)
def live:Nat->Live:=fun i=>match i with | 3=>[(0,none),(3,none),(4,none)] | _=>[]
def md (a0:List Int):Int:=(dW (S:=Int) (β:=Int) (fun (y1:Int) (s3:Int)=>(.inl (Int.tmod (i64.wrap ((i64.wrap ((i64.wrap (s3*1000003))+(Z53.md y1 2147483647)))+13)) 2147483647))) (fun (s3:Int)=>(s3:Int)) a0 11)
def gd (a0:List Int):Prop:=(bO (2^43) (fun y:Int=>True) a0)
def R:=RR gd md
def aq {a0}(h:gd a0):R (a0.map bu)=some (md a0):=aR (a:=a0) h
def aW:=CN [pL 3] oI RT.dec R
def bB (a0)(hg:gd a0):∃n,start (iter step n) (a0.map bu)=ret (md a0):=by
 unfold gd at hg
 have H0:=hg
 unfold start md
 try simp only [SS]
 have Bh2:a0.length<=maxLen:=(by
   have:=(H0).1
   try simp only [maxLen] at *
   omega)
 refine ex_eq (out:=ret) (eJ (z:=0)) ?_
 refine dR (p:=Pt.p0 (a0.map bu) 11 0) fz ?_
 refine cu (pt:=fun (i1:Nat) (s3:Int)=>Pt.p0 (a0.map bu) s3 (i1:Int)) (s:=(11:Int)) (out:=ret) (fun _ _=>True) (fun J i1 s3 h2 hih2=>?_) (fun s3 hih2=>?_) trivial
 ·simp only [step,SS]
  have bb_:=Bh2
  simp only [maxLen] at bb_
  have:=(H0).1
  refine bD.yes (by apply decide_eq_true;omega) ?_
  refine bD.yes aJ ?_
  refine bD.yes (aL h2) ?_
  refine cr (Z53.aq trivial) ?_
  refine bD.inl trivial ?_
  rw [aI h2 Bh2]
  all_goals exact fz
 ·simp only [step,SS]
  have:=(H0).1
  refine dF (by apply decide_eq_false;omega) ?_
  refine ⟨0,?_⟩
  all_goals exact fz
def af:cG 516 aW:=L1 22 pid cg bZ live step start mix aF bB (.cons Z53.af .nil) Tryz.func516
end Z54
namespace Z55
def F (x0:bF)(x1:Int):aK:=(call (Z52.R x0) fun v1=>(cm (ff (((2:Int)+(v1.length:Int))*8)) (call (Z54.R ([[L.int 239],[L.int x1]]++v1)) fun v2=>ret (v2:Int))))
def md (a0:aO)(a1:Int):Int:=((Z54.md ([239,a1]++(Z52.md a0))):Int)
def gd (a0:aO)(a1:Int):Prop:=(aO.Sm (2^21) a0)
def R:=RR (p2 gd) (u2 md)
def aq {a0 a1}(h:gd a0 a1):R ((aO.r a0),a1)=some (md a0 a1):=aR (a:=(a0,a1)) h
def aW:=CN [.agg pZ,pI] oI RT.dec R
def bB (a0)(a1)(hg:gd a0 a1):F (aO.r a0) a1=ret (md a0 a1):=by
 unfold gd at hg
 have H0:=hg
 unfold F md
 try simp only [SS]
 refine ct (Z52.aq H0) ?_
 try simp only [SS]
 refine ak (have:=Z52.len a0;have:=(H0).1;lm) ?_
 refine bg (Z54.md ([239,a1]++(Z52.md a0))) (rq (Z54.aq (a0:=([239,a1]++(Z52.md a0))) ⟨(have:=Z52.len a0;have:=(H0).1;om),fun _ _=>trivial⟩)) ?_
 all_goals exact fz
def af:cG 439 aW:=W2 11 F mix aF bB (.cons Z52.af (.cons Z54.af .nil)) Tryz.func439
end Z55
namespace Z56
def F (x0:ck):aK:=(call (Z52.R x0.bQ) fun v1=>(cm (ff (((8:Int)+(v1.length:Int))*8)) (call (Z52.R x0.bE) fun v2=>(cm (ff (((([[L.int x0.bz],[L.int x0.cN],[L.int x0.bM],[L.int x0.cK],[L.int x0.cF],[L.int x0.cz],[L.int x0.dm],[L.int x0.dH]]++v1).length:Int)+(v2.length:Int))*8)) (cm (ff ((((([[L.int x0.bz],[L.int x0.cN],[L.int x0.bM],[L.int x0.cK],[L.int x0.cF],[L.int x0.cz],[L.int x0.dm],[L.int x0.dH]]++v1)++v2).length:Int)+1)*8)) (call (Z52.R x0.bC) fun v3=>(cm (ff (((((([[L.int x0.bz],[L.int x0.cN],[L.int x0.bM],[L.int x0.cK],[L.int x0.cF],[L.int x0.cz],[L.int x0.dm],[L.int x0.dH]]++v1)++v2)++[[L.int x0.dw]]).length:Int)+(v3.length:Int))*8)) (cond x0.bG (cm (ff ((((((([[L.int x0.bz],[L.int x0.cN],[L.int x0.bM],[L.int x0.cK],[L.int x0.cF],[L.int x0.cz],[L.int x0.dm],[L.int x0.dH]]++v1)++v2)++[[L.int x0.dw]])++v3).length:Int)+1)*8)) (ret (((((([[L.int x0.bz],[L.int x0.cN],[L.int x0.bM],[L.int x0.cK],[L.int x0.cF],[L.int x0.cz],[L.int x0.dm],[L.int x0.dH]]++v1)++v2)++[[L.int x0.dw]])++v3)++[[L.int 1]]):aD))) (cm (ff ((((((([[L.int x0.bz],[L.int x0.cN],[L.int x0.bM],[L.int x0.cK],[L.int x0.cF],[L.int x0.cz],[L.int x0.dm],[L.int x0.dH]]++v1)++v2)++[[L.int x0.dw]])++v3).length:Int)+1)*8)) (ret (((((([[L.int x0.bz],[L.int x0.cN],[L.int x0.bM],[L.int x0.cK],[L.int x0.cF],[L.int x0.cz],[L.int x0.dm],[L.int x0.dH]]++v1)++v2)++[[L.int x0.dw]])++v3)++[[L.int 0]]):aD)))))))))))
def md (a0:aG):List Int:=(cond a0.bG ((((([a0.bz,a0.cN,a0.bM,a0.cK,a0.cF,a0.cz,a0.dm,a0.dH]++(Z52.md a0.bQ))++(Z52.md a0.bE))++[a0.dw])++(Z52.md a0.bC))++[1]) ((((([a0.bz,a0.cN,a0.bM,a0.cK,a0.cF,a0.cz,a0.dm,a0.dH]++(Z52.md a0.bQ))++(Z52.md a0.bE))++[a0.dw])++(Z52.md a0.bC))++[0]))
def gd (a0:aG):Prop:=(aG.Sm (2^21) a0)
def R:=RR gd md
def aq {a0}(h:gd a0):R (aG.r a0)=some ((md a0).map bu):=aR (a:=a0) h
def aW:=CN [.agg gi] (oL 3) RT.dec R
def bB (a0)(hg:gd a0):F (aG.r a0)=ret ((md a0).map bu):=by
 unfold gd at hg
 have H0:=hg
 unfold F md
 try simp only [SS]
 refine ct (Z52.aq H0.1) ?_
 try simp only [SS]
 refine ak (have:=Z52.len a0.bQ;have:=(H0.1).1;lm) ?_
 refine ct (Z52.aq H0.2.1) ?_
 try simp only [SS]
 refine ak (have:=Z52.len a0.bQ;have:=(H0.1).1;have:=Z52.len a0.bE;have:=(H0.2.1).1;lm) ?_
 refine ak (have:=Z52.len a0.bQ;have:=(H0.1).1;have:=Z52.len a0.bE;have:=(H0.2.1).1;lm) ?_
 refine ct (Z52.aq H0.2.2) ?_
 try simp only [SS]
 refine ak (have:=Z52.len a0.bQ;have:=(H0.1).1;have:=Z52.len a0.bE;have:=(H0.2.1).1;have:=Z52.len a0.bC;have:=(H0.2.2).1;lm) ?_
 refine ay (fun b:List Int=>ret ((b.map bu):aD)) (fun c1=>?_) (fun c1=>?_)
 ·refine ak (have:=Z52.len a0.bQ;have:=(H0.1).1;have:=Z52.len a0.bE;have:=(H0.2.1).1;have:=Z52.len a0.bC;have:=(H0.2.2).1;lm) ?_
  all_goals exact fz
 ·refine ak (have:=Z52.len a0.bQ;have:=(H0.1).1;have:=Z52.len a0.bE;have:=(H0.2.1).1;have:=Z52.len a0.bC;have:=(H0.2.2).1;lm) ?_
  all_goals exact fz
def af:cG 441 aW:=W1 49 F mix aF bB (.cons Z52.af .nil) Tryz.func441
def len (a0:aG):(md a0).length=16+a0.bQ.aX.length+a0.bE.aX.length+a0.bC.aX.length:=by unfold md;cases a0.bG<;>simp [Z52.md]<;>omega
def AO {k l:aO}{x y:List Int}(h:Z52.md k++x=Z52.md l++y):k=l/\x=y:=by
 obtain ⟨kl,kn⟩:=k
 obtain ⟨ll,ln⟩:=l
 simp only [Z52.md,List.cons_append,List.nil_append,List.cons.injEq] at h
 obtain ⟨h1,h2,h3⟩:=h
 obtain ⟨h4,h5⟩:=List.append_inj h3 (by omega)
 exact ⟨by rw [h1,h4],h5⟩
def tN (a:aG):md a=a.bz::a.cN::a.bM::a.cK::a.cF::a.cz::a.dm::a.dH::(Z52.md a.bQ++(Z52.md a.bE++(a.dw::(Z52.md a.bC++[bif a.bG then 1 else 0])))):=by
 unfold md
 cases a.bG<;>simp only [bq,bA,List.append_assoc,List.cons_append,List.nil_append]
def inj {a b:aG}(h:md a=md b):a=b:=by
 rw [tN,tN] at h
 simp only [List.cons.injEq] at h
 obtain ⟨g1,g2,g3,g4,g5,g6,g7,g8,g9⟩:=h
 obtain ⟨k1,g9⟩:=AO g9
 obtain ⟨k2,g9⟩:=AO g9
 simp only [List.cons.injEq] at g9
 obtain ⟨k3,g9⟩:=g9
 obtain ⟨k4,g9⟩:=AO g9
 have k5:a.bG=b.bG:=by
  simp only [List.cons.injEq,and_true] at g9
  revert g9
  cases a.bG<;>cases b.bG<;>simp
 cases a;cases b
 simp only [aG.mk.injEq]
 exact ⟨g1,g2,g3,g4,g5,g6,g7,g8,k1,k2,k3,k4,k5⟩
end Z56
namespace Z57
def F (x0:Int)(x1:aD):aK:=(cm (ff (((1:Int)+(x1.length:Int))*8)) (cm (ff (((([[L.int x0]]++x1).length:Int)+1)*8)) (call (Z54.R (([[L.int x0]]++x1)++[[L.int x0]])) fun v1=>ret (v1:Int))))
def md (a0:Int)(a1:List Int):Int:=((Z54.md (([a0]++a1)++[a0])):Int)
def gd (a0:Int)(a1:List Int):Prop:=(bO (2^40) (fun y:Int=>True) a1)
def R:=RR (p2 gd) (u2 md)
def aq {a0 a1}(h:gd a0 a1):R (a0,(a1.map bu))=some (md a0 a1):=aR (a:=(a0,a1)) h
def aW:=CN [pI,pL 3] oI RT.dec R
def bB (a0)(a1)(hg:gd a0 a1):F a0 (a1.map bu)=ret (md a0 a1):=by
 unfold gd at hg
 have H1:=hg
 unfold F md
 try simp only [SS]
 refine ak (have:=(H1).1;lm) ?_
 refine ak (have:=(H1).1;lm) ?_
 refine bg (Z54.md (([a0]++a1)++[a0])) (rq (Z54.aq (a0:=(([a0]++a1)++[a0])) ⟨(have:=(H1).1;om),fun _ _=>trivial⟩)) ?_
 all_goals exact fz
def af:cG 588 aW:=W2 13 F mix aF bB (.cons Z54.af .nil) Tryz.func588
end Z57
namespace Z58
def F (x0:Int)(x1:aD):aK:=(cm (ff (((1:Int)+(x1.length:Int))*8)) (call (Z57.R (x0,([[L.int 223]]++x1))) fun v1=>ret (v1:Int)))
def md (a0:Int)(a1:List Int):Int:=((Z57.md a0 ([223]++a1)):Int)
def gd (a0:Int)(a1:List Int):Prop:=(bO (2^39) (fun y:Int=>True) a1)
def R:=RR (p2 gd) (u2 md)
def aq {a0 a1}(h:gd a0 a1):R (a0,(a1.map bu))=some (md a0 a1):=aR (a:=(a0,a1)) h
def aW:=CN [pI,pL 3] oI RT.dec R
def bB (a0)(a1)(hg:gd a0 a1):F a0 (a1.map bu)=ret (md a0 a1):=by
 unfold gd at hg
 have H1:=hg
 unfold F md
 try simp only [SS]
 refine ak (have:=(H1).1;lm) ?_
 refine bg (Z57.md a0 ([223]++a1)) (rq (Z57.aq (a0:=a0) (a1:=([223]++a1)) ⟨(have:=(H1).1;om),fun _ _=>trivial⟩)) ?_
 all_goals exact fz
def af:cG 571 aW:=W2 10 F mix aF bB (.cons Z57.af .nil) Tryz.func571
end Z58
namespace Z59
def F (x0:bw)(x1:aD):aK:=(call (Z45.R (x0.gW,1,99)) fun v1=>(cond v1 (call (Z58.R (x0.gW,x1)) fun v2=>ret ((x0.jD==v2):Bool)) bh))
def md (a0:bw)(a1:List Int):Bool:=(cond (Z45.md a0.gW 1 99) ((a0.jD==(Z58.md a0.gW a1)):Bool) (false:Bool))
def gd (a0:bw)(a1:List Int):Prop:=(bO (2^38) (fun y:Int=>True) a1)
def R:=RR (p2 gd) (u2 md)
def aq {a0 a1}(h:gd a0 a1):R (a0,(a1.map bu))=some (md a0 a1):=aR (a:=(a0,a1)) h
def aW:=CN [.agg yL,pL 3] oB RT.dec R
def bB (a0)(a1)(hg:gd a0 a1):F a0 (a1.map bu)=ret (md a0 a1):=by
 unfold gd at hg
 have H1:=hg
 unfold F md
 try simp only [SS]
 refine ct (Z45.aq trivial) ?_
 refine ay ret (fun c1=>?_) (fun _=>rfl)
 refine ct (Z58.aq (H1.mono (by decide) (fun x hx=>trivial))) ?_
 all_goals exact fz
def af:cG 568 aW:=W2 17 F mix aF bB (.cons Z45.af (.cons Z58.af .nil)) Tryz.func568
end Z59
namespace Z60
inductive Pt where
 | p0 (a b:aD) (c d:Int) (e:bF)
 | p1 (a b:aD) (c d e:Int) (f:bF)
def pid:Pt->Nat
 | .p0 ..=>3
 | .p1 ..=>6
def cg:Pt->List V
 | .p0 a b c d e=>[.sl none 3 a,.sl none 428 b,.dy 0 0,.int .i64 c,.int .i64 d]
 | .p1 a b c d e f=>[.sl none 3 a,.sl none 428 b,.dy 0 0,.int .i64 c,.int .i64 d,.int .i64 e]
def bZ:Pt->List aZ
 | .p0 a b c d e=>[.box [.sl none 3 e.aX,.int .i64 e.cH]]
 | .p1 a b c d e f=>[.box [.sl none 3 f.aX,.int .i64 f.cH]]
def step (J:Pt->aK):Pt->aK
 | .p0 a b c d e=>(cond (decide (d<(e.aX.length:Int))) (J (.p1 a b c d 0 e)) (ret (c:Int)))
 | .p1 a b c d e f=>(cond (decide (e<(b.length:Int))) (m2 e (b.length:Int) (m2 d (f.aX.length:Int) (cond ((bw.at b (toNat e)).gW==(jG f.aX (toNat d))) (m2 e (b.length:Int) (call (Z59.R ((bw.at b (toNat e)),a)) fun v1=>(cond v1 (J (.p0 a b (i64.wrap (c+1)) (i64.wrap (d+1)) f)) (J (.p1 a b c d (i64.wrap (e+1)) f))))) (J (.p1 a b c d (i64.wrap (e+1)) f))))) (J (.p0 a b c (i64.wrap (d+1)) f)))
def start (J:Pt->aK)(x0:bF)(x1 x2:aD):aK:=J (.p0 x1 x2 0 0 x0)
def live:Nat->Live:=fun i=>match i with | 3=>[(1,none),(2,none),(3,none),(7,none),(8,none)] | 6=>[(1,none),(2,none),(3,none),(7,none),(8,none),(9,none)] | _=>[]
def md (a0:aO)(a1:List Int)(a2:List bw):Int:=(dW (S:=Int) (β:=Int) (fun (y1:Int) (s3:Int)=>(dW (S:=Unit) (β:=(Int⊕Int)) (fun (y5:bw) (s7:Unit)=>(cond (y5.gW==y1) (cond (Z59.md y5 a1) (.inr (.inl (i64.wrap (s3+1)))) (.inl ())) (.inl ()))) (fun (s7:Unit)=>(.inl s3)) a2 ())) (fun (s3:Int)=>(s3:Int)) a0.aX 0)
def gd (a0:aO)(a1:List Int)(a2:List bw):Prop:=(aO.Sm (2^21) a0)/\(bO (2^38) (fun y:Int=>True) a1)/\(bO (2^21) (fun y:bw=>bw.Sm (2^21) y) a2)
def R:=RR (p3 gd) (u3 md)
def aq {a0 a1 a2}(h:gd a0 a1 a2):R ((aO.r a0),(a1.map bu),(a2.map bw.row))=some (md a0 a1 a2):=aR (a:=(a0,a1,a2)) h
def aW:=CN [.agg pZ,pL 3,pL 428] oI RT.dec R
def bB (a0)(a1)(a2)(hg:gd a0 a1 a2):∃n,start (iter step n) (aO.r a0) (a1.map bu) (a2.map bw.row)=ret (md a0 a1 a2):=by
 obtain ⟨H0,H1,H2⟩:=hg
 unfold start md
 try simp only [SS]
 have Bh2:a0.aX.length<=maxLen:=(by
   have:=(H0).1
   try simp only [maxLen] at *
   omega)
 refine ex_eq (out:=ret) (eJ (z:=0)) ?_
 refine dR (p:=Pt.p0 (a1.map bu) (a2.map bw.row) 0 0 (aO.r a0)) fz ?_
 refine uZ (pt:=fun (i1:Nat) (s3:Int)=>Pt.p0 (a1.map bu) (a2.map bw.row) s3 (i1:Int) (aO.r a0)) (s:=(0:Int)) (out:=ret) (fun _ _=>True) (fun i1 s3 h2 hih2 K4 hK4 rK4=>?_) (fun s3 hih2=>?_) trivial
 ·simp only [step,SS]
  have bb_:=Bh2
  simp only [maxLen] at bb_
  have:=(H0).1
  refine dK (by apply decide_eq_true;omega) ?_
  have Bh6:a2.length<=maxLen:=(by
    have:=(H2).1
    try simp only [maxLen] at *
    omega)
  refine ex_eq (out:=K4) (eJ (z:=bw.zero)) ?_
  refine dR (p:=Pt.p1 (a1.map bu) (a2.map bw.row) s3 (i1:Int) 0 (aO.r a0)) fz ?_
  refine uZ (pt:=fun (i5:Nat) (s7:Unit)=>Pt.p1 (a1.map bu) (a2.map bw.row) s3 (i1:Int) (i5:Int) (aO.r a0)) (s:=(():Unit)) (out:=K4) (fun _ _=>True) (fun i5 s7 h6 hih6 K8 hK8 rK8=>?_) (fun s7 hih6=>?_) trivial
  ·simp only [step,SS]
   have bb_:=Bh6
   simp only [maxLen] at bb_
   have:=(H2).1
   refine dK (by apply decide_eq_true;omega) ?_
   refine dK aJ ?_
   refine dK (aL h6) ?_
   refine dK dt ?_
   refine dK (have:=(H0).1;dt) ?_
   refine hU K8 (fun c9=>?_) (fun c9=>?_)
   ·refine dK aJ ?_
    refine dK (aL h6) ?_
    refine cx (Z59.aq H1) ?_
    refine hU K8 (fun c10=>?_) (fun c10=>?_)
    ·rw [rK8]
     rw [aI h2 Bh2]
     first | exact hK4 _ trivial | (simp only [SS];exact hK4 _ trivial) | (simp only [MP];exact hK4 _ trivial)
    ·rw [aI h6 Bh6]
     first | exact hK8 _ trivial | (simp only [SS];exact hK8 _ trivial) | (simp only [MP];exact hK8 _ trivial)
   ·rw [aI h6 Bh6]
    first | exact hK8 _ trivial | (simp only [SS];exact hK8 _ trivial) | (simp only [MP];exact hK8 _ trivial)
  ·simp only [step,SS]
   have:=(H2).1
   refine dF (by apply decide_eq_false;omega) ?_
   rw [aI h2 Bh2]
   first | exact hK4 _ trivial | (simp only [SS];exact hK4 _ trivial) | (simp only [MP];exact hK4 _ trivial)
 ·simp only [step,SS]
  have:=(H0).1
  refine dF (by apply decide_eq_false;omega) ?_
  refine ⟨0,?_⟩
  all_goals exact fz
def af:cG 518 aW:=L3 45 pid cg bZ live step start mix aF bB (.cons Z59.af .nil) Tryz.func518
end Z60
namespace Z61
def F (x0:bF)(x1 x2:aD):aK:=(call (Z49.R x0) fun v1=>(cond v1 (call (Z60.R (x0,x1,x2)) fun v2=>ret ((decide (v2>=x0.cH)):Bool)) bh))
def md (a0:aO)(a1:List Int)(a2:List bw):Bool:=(cond (Z49.md a0) ((decide ((Z60.md a0 a1 a2)>=a0.cH)):Bool) (false:Bool))
def gd (a0:aO)(a1:List Int)(a2:List bw):Prop:=(aO.Sm (2^21) a0)/\(bO (2^38) (fun y:Int=>True) a1)/\(bO (2^21) (fun y:bw=>bw.Sm (2^21) y) a2)
def R:=RR (p3 gd) (u3 md)
def aq {a0 a1 a2}(h:gd a0 a1 a2):R ((aO.r a0),(a1.map bu),(a2.map bw.row))=some (md a0 a1 a2):=aR (a:=(a0,a1,a2)) h
def aW:=CN [.agg pZ,pL 3,pL 428] oB RT.dec R
def bB (a0)(a1)(a2)(hg:gd a0 a1 a2):F (aO.r a0) (a1.map bu) (a2.map bw.row)=ret (md a0 a1 a2):=by
 obtain ⟨H0,H1,H2⟩:=hg
 unfold F md
 try simp only [SS]
 refine ct (Z49.aq H0) ?_
 refine ay ret (fun c1=>?_) (fun _=>rfl)
 refine ct (Z60.aq ⟨H0,H1,H2⟩) ?_
 all_goals exact fz
def af:cG 440 aW:=W3 18 F mix aF bB (.cons Z49.af (.cons Z60.af .nil)) Tryz.func440
end Z61
namespace Z62
def F (x0:aT):aK:=(call (Z51.R x0.au) fun v1=>(cond v1 (cond (x0.au.cN==0) (cond (x0.au.bM==1) (cond (!x0.au.bG) (call (Z55.R (x0.au.bQ,x0.au.dH)) fun v2=>(cond (x0.au.bz==v2) (call (Z56.R x0.au) fun v3=>(call (Z61.R (x0.au.bQ,v3,x0.cw)) fun v4=>ret (v4:Bool))) bh)) bh) bh) bh) bh))
def md (a0:aa):Bool:=(cond (Z51.md a0.au) (cond (a0.au.cN==0) (cond (a0.au.bM==1) (cond (!a0.au.bG) (cond (a0.au.bz==(Z55.md a0.au.bQ a0.au.dH)) ((Z61.md a0.au.bQ (Z56.md a0.au) a0.cw):Bool) (false:Bool)) (false:Bool)) (false:Bool)) (false:Bool)) (false:Bool))
def gd (a0:aa):Prop:=(aa.Sm (2^21) a0)
def R:=RR gd md
def aq {a0}(h:gd a0):R (aa.r a0)=some (md a0):=aR (a:=a0) h
def aW:=CN [.agg kT] oB RT.dec R
def bB (a0)(hg:gd a0):F (aa.r a0)=ret (md a0):=by
 unfold gd at hg
 have H0:=hg
 unfold F md
 try simp only [SS]
 refine ct (Z51.aq H0.1) ?_
 refine ay ret (fun c1=>?_) (fun _=>rfl)
 try have tc1:=Z51.tr (by simpa using c1)
 refine ay ret (fun c2=>?_) (fun _=>rfl)
 have dc2:=c2
 try simp only [DC] at dc2
 refine ay ret (fun c3=>?_) (fun _=>rfl)
 have dc3:=c3
 try simp only [DC] at dc3
 refine ay ret (fun c4=>?_) (fun _=>rfl)
 have dc4:=c4
 try simp only [DC] at dc4
 refine ct (Z55.aq H0.1.1) ?_
 refine ay ret (fun c5=>?_) (fun _=>rfl)
 have dc5:=c5
 try simp only [DC] at dc5
 refine ct (Z56.aq H0.1) ?_
 try simp only [SS]
 refine ct (Z61.aq ⟨H0.1.1,⟨(have:=Z56.len a0.au;have:=(H0.1.1).1;have:=(H0.1.2.1).1;have:=(H0.1.2.2).1;om),fun _ _=>trivial⟩,H0.2⟩) ?_
 all_goals exact fz
def af:cG 353 aW:=W1 42 F mix aF bB (.cons Z51.af (.cons Z55.af (.cons Z56.af (.cons Z61.af .nil)))) Tryz.func353
end Z62
namespace Z63
def F (x0:ck):aK:=(call (Z56.R x0) fun v1=>(cm (ff (((1:Int)+(v1.length:Int))*8)) (call (Z54.R ([[L.int 233]]++v1)) fun v2=>ret (v2:Int))))
def md (a0:aG):Int:=((Z54.md ([233]++(Z56.md a0))):Int)
def gd (a0:aG):Prop:=(aG.Sm (2^21) a0)
def R:=RR gd md
def aq {a0}(h:gd a0):R (aG.r a0)=some (md a0):=aR (a:=a0) h
def aW:=CN [.agg gi] oI RT.dec R
def bB (a0)(hg:gd a0):F (aG.r a0)=ret (md a0):=by
 unfold gd at hg
 have H0:=hg
 unfold F md
 try simp only [SS]
 refine ct (Z56.aq H0) ?_
 try simp only [SS]
 refine ak (have:=Z56.len a0;have:=(H0.1).1;have:=(H0.2.1).1;have:=(H0.2.2).1;lm) ?_
 refine bg (Z54.md ([233]++(Z56.md a0))) (rq (Z54.aq (a0:=([233]++(Z56.md a0))) ⟨(have:=Z56.len a0;have:=(H0.1).1;have:=(H0.2.1).1;have:=(H0.2.2).1;om),fun _ _=>trivial⟩)) ?_
 all_goals exact fz
def af:cG 519 aW:=W1 8 F mix aF bB (.cons Z56.af (.cons Z54.af .nil)) Tryz.func519
end Z63
namespace Z64
def F (x0 x1:ck):aK:=(cond x0.bG (ret (4:Int)) (cond x1.bG (ret (6:Int)) (ret (1:Int))))
def md (a0 a1:aG):Int:=(cond a0.bG (4:Int) (cond a1.bG (6:Int) (1:Int)))
def gd (a0 a1:aG):Prop:=True
def R:=RR (p2 gd) (u2 md)
def aq {a0 a1}(h:gd a0 a1):R ((aG.r a0),(aG.r a1))=some (md a0 a1):=aR (a:=(a0,a1)) h
def aW:=CN [.agg gi,.agg gi] oI RT.dec R
def bB (a0)(a1)(hg:gd a0 a1):F (aG.r a0) (aG.r a1)=ret (md a0 a1):=by
 unfold F md
 try simp only [SS]
 refine ay ret (fun _=>rfl) (fun c1=>?_)
 refine ay ret (fun _=>rfl) (fun _=>rfl)
def af:cG 520 aW:=W2 11 F mix aF bB .nil Tryz.func520
end Z64
namespace Z65
inductive Pt where
 | p0 (a b:aD) (c:Int)
def pid:Pt->Nat
 | .p0 ..=>4
def cg:Pt->List V
 | .p0 a b c=>[.sl none 3 a,.sl none 3 b,.int .i64 c]
def bZ:Pt->List aZ
 | .p0 a b c=>[]
def step (J:Pt->aK):Pt->aK
 | .p0 a b c=>(cond (decide (c<(a.length:Int))) (m2 c (a.length:Int) (m2 c (b.length:Int) (cond ((jG a (toNat c)) != (jG b (toNat c))) bh (J (.p0 a b (i64.wrap (c+1))))))) eF)
def start (J:Pt->aK)(x0 x1:aD):aK:=(cond ((x0.length:Int) != (x1.length:Int)) bh (J (.p0 x0 x1 0)))
def live:Nat->Live:=fun i=>match i with | 4=>[(0,none),(1,none),(5,none)] | _=>[]
def md (a0 a1:List Int):Bool:=(bif ((a0.length:Int) != (a1.length:Int)) then (false:Bool) else (eC (S:=Unit) (β:=Bool) (fun (i2:Nat) (s4:Unit)=>(cond ((a0.getD i2 0) != (a1.getD i2 0)) (.inr (false:Bool)) (.inl ()))) (fun (s4:Unit)=>(true:Bool)) a0.length 0 ()))
def gd (a0 a1:List Int):Prop:=(bO (2^38) (fun y:Int=>True) a0)/\(bO (2^38) (fun y:Int=>True) a1)
def R:=RR (p2 gd) (u2 md)
def aq {a0 a1}(h:gd a0 a1):R ((a0.map bu),(a1.map bu))=some (md a0 a1):=aR (a:=(a0,a1)) h
def aW:=CN [pL 3,pL 3] oB RT.dec R
def bB (a0)(a1)(hg:gd a0 a1):∃n,start (iter step n) (a0.map bu) (a1.map bu)=ret (md a0 a1):=by
 obtain ⟨H0,H1⟩:=hg
 unfold start md
 try simp only [SS]
 refine hU ret (fun _=>⟨0,rfl⟩) (fun c1=>?_)
 have dc1:=c1
 try simp only [DC] at dc1
 have Bh3:a0.length<=maxLen:=(by
   have:=(H0).1
   try simp only [maxLen] at *
   omega)
 refine dR (p:=Pt.p0 (a0.map bu) (a1.map bu) 0) fz ?_
 refine cu (pt:=fun (i2:Nat) (s4:Unit)=>Pt.p0 (a0.map bu) (a1.map bu) (i2:Int)) (s:=(():Unit)) (out:=ret) (fun _ _=>True) (fun J i2 s4 h3 hih3=>?_) (fun s4 hih3=>?_) trivial
 ·simp only [step,SS]
  have bb_:=Bh3
  simp only [maxLen] at bb_
  have:=(H0).1
  refine bD.yes (by apply decide_eq_true;omega) ?_
  refine bD.yes aJ ?_
  refine bD.yes (aL h3) ?_
  refine bD.yes aJ ?_
  refine bD.yes (have:=(H1).1;dt) ?_
  refine bD.bif (fun _=>bD.inr rfl) (fun c5=>?_)
  refine bD.inl trivial ?_
  rw [aI h3 Bh3]
  all_goals exact fz
 ·simp only [step,SS]
  have:=(H0).1
  refine dF (by apply decide_eq_false;omega) ?_
  refine ⟨0,?_⟩
  all_goals exact fz
def af:cG 452 aW:=L2 26 pid cg bZ live step start mix aF bB .nil Tryz.func452
def md_eq (a0 a1:List Int):md a0 a1=eo a0 a1:=by
 unfold md
 refine kA (0) (fun i s h h2=>?_) (fun s=>rfl)
 simp only [bne,fq,bool_beq,eW]
 cases eo _ _<;>rfl
end Z65
namespace Z66
def F (x0 x1:bF):aK:=(cond (x0.cH==x1.cH) (call (Z65.R (x0.aX,x1.aX)) fun v1=>ret (v1:Bool)) bh)
def md (a0 a1:aO):Bool:=(cond (a0.cH==a1.cH) ((Z65.md a0.aX a1.aX):Bool) (false:Bool))
def gd (a0 a1:aO):Prop:=(aO.Sm (2^21) a0)/\(aO.Sm (2^21) a1)
def R:=RR (p2 gd) (u2 md)
def aq {a0 a1}(h:gd a0 a1):R ((aO.r a0),(aO.r a1))=some (md a0 a1):=aR (a:=(a0,a1)) h
def aW:=CN [.agg pZ,.agg pZ] oB RT.dec R
def bB (a0)(a1)(hg:gd a0 a1):F (aO.r a0) (aO.r a1)=ret (md a0 a1):=by
 obtain ⟨H0,H1⟩:=hg
 unfold F md
 try simp only [SS]
 refine ay ret (fun c1=>?_) (fun _=>rfl)
 refine ct (Z65.aq ⟨(H0.mono (by decide) (fun x hx=>trivial)),(H1.mono (by decide) (fun x hx=>trivial))⟩) ?_
 all_goals exact fz
def af:cG 569 aW:=W2 17 F mix aF bB (.cons Z65.af .nil) Tryz.func569
def md_eq (a0 a1:aO):md a0 a1=eo a0 a1:=by
 unfold md
 cases a0;cases a1
 rw [Bool.eq_iff_iff]
 simp [dA,eW,aO.mk.injEq,Z65.md_eq]
 try (constructor<;>(intro h;simp_all))
end Z66
namespace Z67
def F (x0 x1:ck):aK:=(cond (x0.cz==x1.cz) (ret ((x0.dm==x1.dm):Bool)) bh)
def md (a0 a1:aG):Bool:=(cond (a0.cz==a1.cz) ((a0.dm==a1.dm):Bool) (false:Bool))
def gd (a0 a1:aG):Prop:=True
def R:=RR (p2 gd) (u2 md)
def aq {a0 a1}(h:gd a0 a1):R ((aG.r a0),(aG.r a1))=some (md a0 a1):=aR (a:=(a0,a1)) h
def aW:=CN [.agg gi,.agg gi] oB RT.dec R
def bB (a0)(a1)(hg:gd a0 a1):F (aG.r a0) (aG.r a1)=ret (md a0 a1):=by
 unfold F md
 try simp only [SS]
 refine ay ret (fun c1=>?_) (fun _=>rfl)
 all_goals exact fz
def af:cG 570 aW:=W2 17 F mix aF bB .nil Tryz.func570
end Z67
namespace Z68
def F (x0 x1:ck):aK:=(cond x0.bG (ret (4:Int)) (call (Z50.R x0.bE) fun v1=>(cond v1 (ret (5:Int)) (cond (decide (x1.cK<(i64.wrap (x0.cF+x0.dw)))) (ret (5:Int)) (cond x1.bG (ret (6:Int)) (call (Z66.R (x1.bQ,x0.bE)) fun v2=>(cond (!v2) (ret (6:Int)) (call (Z67.R (x1,x0)) fun v3=>(cond (!v3) (ret (6:Int)) (ret (1:Int)))))))))))
def md (a0 a1:aG):Int:=(cond a0.bG (4:Int) (cond (Z50.md a0.bE) (5:Int) (cond (decide (a1.cK<(i64.wrap (a0.cF+a0.dw)))) (5:Int) (cond a1.bG (6:Int) (cond (!(Z66.md a1.bQ a0.bE)) (6:Int) (cond (!(Z67.md a1 a0)) (6:Int) (1:Int)))))))
def gd (a0 a1:aG):Prop:=(aG.Sm (2^21) a0)/\(aG.Sm (2^21) a1)
def R:=RR (p2 gd) (u2 md)
def aq {a0 a1}(h:gd a0 a1):R ((aG.r a0),(aG.r a1))=some (md a0 a1):=aR (a:=(a0,a1)) h
def aW:=CN [.agg gi,.agg gi] oI RT.dec R
def bB (a0)(a1)(hg:gd a0 a1):F (aG.r a0) (aG.r a1)=ret (md a0 a1):=by
 obtain ⟨H0,H1⟩:=hg
 unfold F md
 try simp only [SS]
 refine ay ret (fun _=>rfl) (fun c1=>?_)
 refine ct (Z50.aq trivial) ?_
 refine ay ret (fun _=>rfl) (fun c2=>?_)
 refine ay ret (fun _=>rfl) (fun c3=>?_)
 refine ay ret (fun _=>rfl) (fun c4=>?_)
 refine ct (Z66.aq ⟨H1.1,H0.2.1⟩) ?_
 refine ay ret (fun _=>rfl) (fun c5=>?_)
 refine ct (Z67.aq trivial) ?_
 refine ay ret (fun _=>rfl) (fun _=>rfl)
def af:cG 521 aW:=W2 39 F mix aF bB (.cons Z50.af (.cons Z66.af (.cons Z67.af .nil))) Tryz.func521
end Z68
namespace Z69
def F (x0 x1:ck):aK:=(call (Z50.R x0.bC) fun v1=>(cond v1 (ret (5:Int)) (cond (x1.bG==x0.bG) (ret (6:Int)) (call (Z67.R (x1,x0)) fun v2=>(cond (!v2) (ret (6:Int)) (call (Z66.R (x1.bC,x0.bC)) fun v3=>(cond (!v3) (ret (6:Int)) (call (Z66.R (x1.bE,x0.bE)) fun v4=>(cond (!v4) (ret (6:Int)) (cond (x1.dw != x0.dw) (ret (6:Int)) (cond x1.bG (call (Z66.R (x1.bQ,x0.bQ)) fun v5=>(cond (!v5) (ret (6:Int)) (ret (1:Int)))) (ret (1:Int)))))))))))))
def md (a0 a1:aG):Int:=(cond (Z50.md a0.bC) (5:Int) (cond (a1.bG==a0.bG) (6:Int) (cond (!(Z67.md a1 a0)) (6:Int) (cond (!(Z66.md a1.bC a0.bC)) (6:Int) (cond (!(Z66.md a1.bE a0.bE)) (6:Int) (cond (a1.dw != a0.dw) (6:Int) (cond a1.bG (cond (!(Z66.md a1.bQ a0.bQ)) (6:Int) (1:Int)) (1:Int))))))))
def gd (a0 a1:aG):Prop:=(aG.Sm (2^21) a0)/\(aG.Sm (2^21) a1)
def R:=RR (p2 gd) (u2 md)
def aq {a0 a1}(h:gd a0 a1):R ((aG.r a0),(aG.r a1))=some (md a0 a1):=aR (a:=(a0,a1)) h
def aW:=CN [.agg gi,.agg gi] oI RT.dec R
def bB (a0)(a1)(hg:gd a0 a1):F (aG.r a0) (aG.r a1)=ret (md a0 a1):=by
 obtain ⟨H0,H1⟩:=hg
 unfold F md
 try simp only [SS]
 refine ct (Z50.aq trivial) ?_
 refine ay ret (fun _=>rfl) (fun c1=>?_)
 refine ay ret (fun _=>rfl) (fun c2=>?_)
 refine ct (Z67.aq trivial) ?_
 refine ay ret (fun _=>rfl) (fun c3=>?_)
 refine ct (Z66.aq ⟨H1.2.2,H0.2.2⟩) ?_
 refine ay ret (fun _=>rfl) (fun c4=>?_)
 refine ct (Z66.aq ⟨H1.2.1,H0.2.1⟩) ?_
 refine ay ret (fun _=>rfl) (fun c5=>?_)
 refine ay ret (fun _=>rfl) (fun c6=>?_)
 refine ay ret (fun c7=>?_) (fun _=>rfl)
 refine ct (Z66.aq ⟨H1.1,H0.1⟩) ?_
 refine ay ret (fun _=>rfl) (fun _=>rfl)
def af:cG 522 aW:=W2 55 F mix aF bB (.cons Z50.af (.cons Z67.af (.cons Z66.af .nil))) Tryz.func522
end Z69
namespace Z70
def F (x0:ck)(x1:aT):aK:=(call (Z51.R x0) fun v1=>(cond (!v1) (ret (2:Int)) (call (Z51.R x1.au) fun v2=>(cond (!v2) (ret (2:Int)) (cond (x1.au.bz != x0.bz) (ret (3:Int)) (cond (x1.au.cN != (i64.wrap (x0.cN+1))) (ret (3:Int)) (call (Z63.R x0) fun v3=>(cond (x1.au.dH != v3) (ret (3:Int)) (cond (decide (x1.au.cK<x0.cK)) (ret (3:Int)) (call (Z64.R (x0,x1.au)) fun v4=>(cond (x1.au.bM==2) (call (Z68.R (x0,x1.au)) fun v5=>(cond (v5==1) (call (Z56.R x1.au) fun v6=>(call (Z61.R (x0.bE,v6,x1.cw)) fun v7=>(cond (!v7) (ret (7:Int)) (ret (v5:Int))))) (ret (v5:Int)))) (cond (x1.au.bM==3) (call (Z69.R (x0,x1.au)) fun v8=>(cond (v8==1) (call (Z56.R x1.au) fun v9=>(call (Z61.R (x0.bC,v9,x1.cw)) fun v10=>(cond (!v10) (ret (7:Int)) (ret (v8:Int))))) (ret (v8:Int)))) (cond (v4==1) (call (Z56.R x1.au) fun v11=>(call (Z61.R (x0.bQ,v11,x1.cw)) fun v12=>(cond (!v12) (ret (7:Int)) (ret (v4:Int))))) (ret (v4:Int)))))))))))))))
def md (a0:aG)(a1:aa):Int:=(cond (!(Z51.md a0)) (2:Int) (cond (!(Z51.md a1.au)) (2:Int) (cond (a1.au.bz != a0.bz) (3:Int) (cond (a1.au.cN != (i64.wrap (a0.cN+1))) (3:Int) (cond (a1.au.dH != (Z63.md a0)) (3:Int) (cond (decide (a1.au.cK<a0.cK)) (3:Int) (cond (a1.au.bM==2) (cond ((Z68.md a0 a1.au)==1) (cond (!(Z61.md a0.bE (Z56.md a1.au) a1.cw)) (7:Int) ((Z68.md a0 a1.au):Int)) ((Z68.md a0 a1.au):Int)) (cond (a1.au.bM==3) (cond ((Z69.md a0 a1.au)==1) (cond (!(Z61.md a0.bC (Z56.md a1.au) a1.cw)) (7:Int) ((Z69.md a0 a1.au):Int)) ((Z69.md a0 a1.au):Int)) (cond ((Z64.md a0 a1.au)==1) (cond (!(Z61.md a0.bQ (Z56.md a1.au) a1.cw)) (7:Int) ((Z64.md a0 a1.au):Int)) ((Z64.md a0 a1.au):Int))))))))))
def gd (a0:aG)(a1:aa):Prop:=(aG.Sm (2^21) a0)/\(aa.Sm (2^21) a1)
def R:=RR (p2 gd) (u2 md)
def aq {a0 a1}(h:gd a0 a1):R ((aG.r a0),(aa.r a1))=some (md a0 a1):=aR (a:=(a0,a1)) h
def aW:=CN [.agg gi,.agg kT] oI RT.dec R
def bB (a0)(a1)(hg:gd a0 a1):F (aG.r a0) (aa.r a1)=ret (md a0 a1):=by
 obtain ⟨H0,H1⟩:=hg
 unfold F md
 try simp only [SS]
 refine ct (Z51.aq H0) ?_
 refine ay ret (fun _=>rfl) (fun c1=>?_)
 have dc1:=c1
 try simp only [DC] at dc1
 try have tc1:=Z51.tr (by simpa using c1)
 refine ct (Z51.aq H1.1) ?_
 refine ay ret (fun _=>rfl) (fun c2=>?_)
 have dc2:=c2
 try simp only [DC] at dc2
 try have tc2:=Z51.tr (by simpa using c2)
 refine ay ret (fun _=>rfl) (fun c3=>?_)
 have dc3:=c3
 try simp only [DC] at dc3
 refine ay ret (fun _=>rfl) (fun c4=>?_)
 have dc4:=c4
 try simp only [DC] at dc4
 refine ct (Z63.aq H0) ?_
 refine ay ret (fun _=>rfl) (fun c5=>?_)
 have dc5:=c5
 try simp only [DC] at dc5
 refine ay ret (fun _=>rfl) (fun c6=>?_)
 have dc6:=c6
 try simp only [DC] at dc6
 refine ct (Z64.aq trivial) ?_
 refine ay ret (fun c7=>?_) (fun c7=>?_)
 ·have dc7:=c7
  try simp only [DC] at dc7
  refine ct (Z68.aq ⟨H0,H1.1⟩) ?_
  refine ay ret (fun c8=>?_) (fun c8=>?_)
  ·have dc8:=c8
   try simp only [DC] at dc8
   refine ct (Z56.aq H1.1) ?_
   try simp only [SS]
   refine ct (Z61.aq ⟨H0.2.1,⟨(have:=Z56.len a1.au;have:=(H1.1.1).1;have:=(H1.1.2.1).1;have:=(H1.1.2.2).1;om),fun _ _=>trivial⟩,H1.2⟩) ?_
   refine ay ret (fun _=>rfl) (fun c9=>?_)
   all_goals exact fz
  ·all_goals exact fz
 ·have dc7:=c7
  try simp only [DC] at dc7
  refine ay ret (fun c10=>?_) (fun c10=>?_)
  ·have dc10:=c10
   try simp only [DC] at dc10
   refine ct (Z69.aq ⟨H0,H1.1⟩) ?_
   refine ay ret (fun c11=>?_) (fun c11=>?_)
   ·have dc11:=c11
    try simp only [DC] at dc11
    refine ct (Z56.aq H1.1) ?_
    try simp only [SS]
    refine ct (Z61.aq ⟨H0.2.2,⟨(have:=Z56.len a1.au;have:=(H1.1.1).1;have:=(H1.1.2.1).1;have:=(H1.1.2.2).1;om),fun _ _=>trivial⟩,H1.2⟩) ?_
    refine ay ret (fun _=>rfl) (fun c12=>?_)
    all_goals exact fz
   ·all_goals exact fz
  ·have dc10:=c10
   try simp only [DC] at dc10
   refine ay ret (fun c13=>?_) (fun c13=>?_)
   ·have dc13:=c13
    try simp only [DC] at dc13
    refine ct (Z56.aq H1.1) ?_
    try simp only [SS]
    refine ct (Z61.aq ⟨H0.1,⟨(have:=Z56.len a1.au;have:=(H1.1.1).1;have:=(H1.1.2.1).1;have:=(H1.1.2.2).1;om),fun _ _=>trivial⟩,H1.2⟩) ?_
    refine ay ret (fun _=>rfl) (fun c14=>?_)
    all_goals exact fz
   ·all_goals exact fz
def af:cG 442 aW:=W2 78 F mix aF bB (.cons Z51.af (.cons Z63.af (.cons Z64.af (.cons Z68.af (.cons Z56.af (.cons Z61.af (.cons Z69.af .nil))))))) Tryz.func442
end Z70
namespace Z71
def F (x0:ck)(x1:aT):aK:=(call (Z70.R (x0,x1)) fun v1=>ret ((v1==1):Bool))
def md (a0:aG)(a1:aa):Bool:=(((Z70.md a0 a1)==1):Bool)
def gd (a0:aG)(a1:aa):Prop:=(aG.Sm (2^21) a0)/\(aa.Sm (2^21) a1)
def R:=RR (p2 gd) (u2 md)
def aq {a0 a1}(h:gd a0 a1):R ((aG.r a0),(aa.r a1))=some (md a0 a1):=aR (a:=(a0,a1)) h
def aW:=CN [.agg gi,.agg kT] oB RT.dec R
def bB (a0)(a1)(hg:gd a0 a1):F (aG.r a0) (aa.r a1)=ret (md a0 a1):=by
 obtain ⟨H0,H1⟩:=hg
 unfold F md
 try simp only [SS]
 refine ct (Z70.aq ⟨H0,H1⟩) ?_
 all_goals exact fz
def af:cG 354 aW:=W2 9 F mix aF bB (.cons Z70.af .nil) Tryz.func354
end Z71
namespace Z72
inductive Pt where
 | p0 (a:aD) (b:Int)
def pid:Pt->Nat
 | .p0 ..=>2
def cg:Pt->List V
 | .p0 a b=>[.sl none 123 a,.int .i64 b]
def bZ:Pt->List aZ
 | .p0 a b=>[]
def step (J:Pt->aK):Pt->aK
 | .p0 a b=>(cond (decide (b<(a.length:Int))) (cond (b==0) (cm (decide ((0:Int)<(a.length:Int))) (call (Z62.R (aT.at a 0)) fun v1=>(cond (!v1) (ret (b:Int)) (cond (decide (b>0)) (cm (decide ((0:Int)<=(i64.wrap (b - 1)))) (cm (decide ((i64.wrap (b - 1))<(a.length:Int))) (m2 b (a.length:Int) (call (Z71.R ((aT.at a (toNat (i64.wrap (b - 1)))).au,(aT.at a (toNat b)))) fun v2=>(cond (!v2) (ret (b:Int)) (J (.p0 a (i64.wrap (b+1))))))))) (J (.p0 a (i64.wrap (b+1)))))))) (cond (decide (b>0)) (cm (decide ((0:Int)<=(i64.wrap (b - 1)))) (cm (decide ((i64.wrap (b - 1))<(a.length:Int))) (m2 b (a.length:Int) (call (Z71.R ((aT.at a (toNat (i64.wrap (b - 1)))).au,(aT.at a (toNat b)))) fun v3=>(cond (!v3) (ret (b:Int)) (J (.p0 a (i64.wrap (b+1))))))))) (J (.p0 a (i64.wrap (b+1)))))) (ret ((-1):Int)))
def start (J:Pt->aK)(x0:aD):aK:=J (.p0 x0 0)
def live:Nat->Live:=fun i=>match i with | 2=>[(0,none),(3,none)] | _=>[]
def md (a0:List aa):Int:=(dJ (S:=Unit) (β:=Int) (fun (i1:Nat) (y1:aa) (s3:Unit)=>(cond ((i1:Int)==0) (cond (!(Z62.md (a0.getD 0 aa.zero))) (.inr ((i1:Int):Int)) (cond (decide ((i1:Int)>0)) (cond (!(Z71.md ((a0.getD (toNat (i64.wrap ((i1:Int) - 1))) aa.zero).au) y1)) (.inr ((i1:Int):Int)) (.inl ())) (.inl ()))) (cond (decide ((i1:Int)>0)) (cond (!(Z71.md ((a0.getD (toNat (i64.wrap ((i1:Int) - 1))) aa.zero).au) y1)) (.inr ((i1:Int):Int)) (.inl ())) (.inl ())))) (fun (s3:Unit)=>((-1):Int)) 0 a0 ())
def gd (a0:List aa):Prop:=(bO (2^21) (fun y:aa=>aa.Sm (2^21) y) a0)
def R:=RR gd md
def aq {a0}(h:gd a0):R (a0.map aa.row)=some (md a0):=aR (a:=a0) h
def aW:=CN [pL 123] oI RT.dec R
def bB (a0)(hg:gd a0):∃n,start (iter step n) (a0.map aa.row)=ret (md a0):=by
 unfold gd at hg
 have H0:=hg
 unfold start md
 try simp only [SS]
 have Bh2:a0.length<=maxLen:=(by
   have:=(H0).1
   try simp only [maxLen] at *
   omega)
 refine ex_eq (out:=ret) (dc (z:=aa.zero)) ?_
 refine dR (p:=Pt.p0 (a0.map aa.row) 0) fz ?_
 refine cu (pt:=fun (i1:Nat) (s3:Unit)=>Pt.p0 (a0.map aa.row) (i1:Int)) (s:=(():Unit)) (out:=ret) (fun _ _=>True) (fun J i1 s3 h2 hih2=>?_) (fun s3 hih2=>?_) trivial
 ·simp only [step,SS]
  have bb_:=Bh2
  simp only [maxLen] at bb_
  have:=(H0).1
  refine bD.yes (by apply decide_eq_true;omega) ?_
  refine bD.bif (fun c4=>?_) (fun c4=>?_)
  ·have dc4:=c4
   try simp only [DC] at dc4
   refine bD.yes (have:=(H0).1;dt) ?_
   refine cr (Z62.aq (bO.getD (z:=aa.zero) H0 (by first | assumption | omega | (simp (disch:=omega) only [wi];omega) | (simp;omega)))) ?_
   refine bD.bif (fun c5=>?_) (fun c5=>?_)
   ·refine bD.inr ?_
    all_goals exact fz
   ·have dc5:=c5
    try simp only [DC] at dc5
    refine bD.bif (fun c6=>?_) (fun c6=>?_)
    ·have dc6:=c6
     try simp only [DC] at dc6
     refine bD.yes dt ?_
     refine bD.yes (have:=(H0).1;dt) ?_
     refine bD.yes aJ ?_
     refine bD.yes (aL h2) ?_
     refine cr (Z71.aq ⟨(bO.getD (z:=aa.zero) H0 (by first | assumption | omega | (simp (disch:=omega) only [wi];omega) | (simp;omega))).1,(bO.getD (z:=aa.zero) H0 h2)⟩) ?_
     refine bD.bif (fun c7=>?_) (fun c7=>?_)
     ·refine bD.inr ?_
      all_goals exact fz
     ·refine bD.inl trivial ?_
      rw [aI h2 Bh2]
      all_goals exact fz
    ·refine bD.inl trivial ?_
     rw [aI h2 Bh2]
     all_goals exact fz
  ·have dc4:=c4
   try simp only [DC] at dc4
   refine bD.bif (fun c8=>?_) (fun c8=>?_)
   ·have dc8:=c8
    try simp only [DC] at dc8
    refine bD.yes dt ?_
    refine bD.yes (have:=(H0).1;dt) ?_
    refine bD.yes aJ ?_
    refine bD.yes (aL h2) ?_
    refine cr (Z71.aq ⟨(bO.getD (z:=aa.zero) H0 (by first | assumption | omega | (simp (disch:=omega) only [wi];omega) | (simp;omega))).1,(bO.getD (z:=aa.zero) H0 h2)⟩) ?_
    refine bD.bif (fun c9=>?_) (fun c9=>?_)
    ·refine bD.inr ?_
     all_goals exact fz
    ·refine bD.inl trivial ?_
     rw [aI h2 Bh2]
     all_goals exact fz
   ·refine bD.inl trivial ?_
    rw [aI h2 Bh2]
    all_goals exact fz
 ·simp only [step,SS]
  have:=(H0).1
  refine dF (by apply decide_eq_false;omega) ?_
  refine ⟨0,?_⟩
  all_goals exact fz
def af:cG 225 aW:=L1 38 pid cg bZ live step start mix aF bB (.cons Z62.af (.cons Z71.af .nil)) Tryz.func225
end Z72
namespace Z73
def F (x0:aD):aK:=(call (Z45.R ((x0.length:Int),1,12)) fun v1=>(cond v1 (call (Z72.R x0) fun v2=>ret ((decide (v2<0)):Bool)) bh))
def md (a0:List aa):Bool:=(cond (Z45.md (a0.length:Int) 1 12) ((decide ((Z72.md a0)<0)):Bool) (false:Bool))
def gd (a0:List aa):Prop:=(bO (2^21) (fun y:aa=>aa.Sm (2^21) y) a0)
def R:=RR gd md
def aq {a0}(h:gd a0):R (a0.map aa.row)=some (md a0):=aR (a:=a0) h
def aW:=CN [pL 123] oB RT.dec R
def bB (a0)(hg:gd a0):F (a0.map aa.row)=ret (md a0):=by
 unfold gd at hg
 have H0:=hg
 unfold F md
 try simp only [SS]
 refine ct (Z45.aq trivial) ?_
 refine ay ret (fun c1=>?_) (fun _=>rfl)
 refine ct (Z72.aq H0) ?_
 all_goals exact fz
def af:cG 70 aW:=W1 11 F mix aF bB (.cons Z45.af (.cons Z72.af .nil)) Tryz.func70
def tr {a0:List aa}(h:md a0=true):1<=a0.length/\a0.length<=12:=by simp [md,Z45.md] at h;omega
def qY {l:List aa}(h:md l=true):∀i,i<l.length->Z51.md (l.getD i aa.zero).au=true:=by
 intro i hi
 have hl:=tr h
 have h1:Z72.md l<0:=by
  unfold md at h
  cases hc:Z45.md (l.length:Int) 1 12<;>rw [hc] at h
  ·cases h
  ·simpa using h
 unfold Z72.md at h1
 have h2:=sK (z:=aa.zero) (by
  intro i x s b h
  revert h
  simp only [Bool.cond_eq_ite]
  repeat' split
  all_goals (intro h;first | (cases h;rfl) | cases h)) h1 i hi
 by_cases h0:i=0
 ·subst h0
  cases hf:Z62.md (l.getD 0 aa.zero)
  ·rw [hf] at h2;cases h2
  ·unfold Z62.md at hf
   cases hh:Z51.md (l.getD 0 aa.zero).au
   ·rw [hh] at hf;cases hf
   ·rfl
 ·have e:((i:Int)==0)=false:=beq_eq_false_iff_ne.2 (by omega)
  have e2:decide ((i:Int)>0)=true:=by simpa using by omega
  simp only [e,e2,bA,bq] at h2
  cases hf:Z71.md ((l.getD (toNat (i64.wrap ((i:Int) - 1))) aa.zero).au) (l.getD i aa.zero)
  ·rw [hf] at h2;cases h2
  ·unfold Z71.md Z70.md at hf
   cases hh:Z51.md (l.getD i aa.zero).au
   ·rw [hh] at hf
    cases hp:Z51.md ((l.getD (toNat (i64.wrap ((i:Int) - 1))) aa.zero).au)<;>rw [hp] at hf<;>cases hf
   ·rfl
def Bn {l:List aa}(h:md l=true):∀i,i<l.length->(l.getD i aa.zero).au.bz=(l.getD 0 aa.zero).au.bz:=by
 have hl:=tr h
 have h1:Z72.md l<0:=by
  unfold md at h
  cases hc:Z45.md (l.length:Int) 1 12<;>rw [hc] at h
  ·cases h
  ·simpa using h
 unfold Z72.md at h1
 have h2:=sK (z:=aa.zero) (by
  intro i x s b h
  revert h
  simp only [Bool.cond_eq_ite]
  repeat' split
  all_goals (intro h;first | (cases h;rfl) | cases h)) h1
 intro i
 induction i with
 | zero=>intro _;rfl
 | succ i ih=>
  intro hi
  have h3:=h2 (i+1) hi
  have e:(((i+1:Nat):Int)==0)=false:=beq_eq_false_iff_ne.2 (by omega)
  have e2:decide (((i+1:Nat):Int)>0)=true:=by simpa using by omega
  have ei:toNat (i64.wrap (((i+1:Nat):Int) - 1))=i:=by simp (disch:=omega) only [wi];omega
  simp only [e,e2,bA,bq] at h3
  rw [ei] at h3
  cases hf:Z71.md ((l.getD i aa.zero).au) (l.getD (i+1) aa.zero)
  ·rw [hf] at h3;cases h3
  ·unfold Z71.md Z70.md at hf
   cases hz:((l.getD (i+1) aa.zero).au.bz != (l.getD i aa.zero).au.bz)
   ·rw [<-ih (by omega)];exact (by simpa using hz)
   ·rw [hz] at hf
    cases hp:Z51.md (l.getD i aa.zero).au<;>rw [hp] at hf
    ·cases hf
    ·cases hh:Z51.md (l.getD (i+1) aa.zero).au<;>rw [hh] at hf<;>cases hf
end Z73
namespace Z74
def F (x0:aD):aK:=(call (Z73.R x0) fun v1=>(cond (!v1) (ret (((⟨0,0,0,0,0,0,0,0,(⟨[],0⟩:bF),(⟨[],0⟩:bF),0,(⟨[],0⟩:bF),false⟩:ck),false):ck×Bool)) (cm (decide ((0:Int)<=(i64.wrap ((x0.length:Int) - 1)))) (cm (decide ((i64.wrap ((x0.length:Int) - 1))<(x0.length:Int))) (call (Z40.R ((aT.at x0 (toNat (i64.wrap ((x0.length:Int) - 1)))).au)) fun v2=>ret ((v2,true):ck×Bool))))))
def md (a0:List aa):aG×Bool:=(cond (!(Z73.md a0)) ((⟨0,0,0,0,0,0,0,0,(⟨[],0⟩:aO),(⟨[],0⟩:aO),0,(⟨[],0⟩:aO),false⟩:aG),false) (((a0.getD (toNat (i64.wrap ((a0.length:Int) - 1))) aa.zero).au),true))
def gd (a0:List aa):Prop:=(bO (2^21) (fun y:aa=>aa.Sm (2^21) y) a0)
def R:=RR gd md
def aq {a0}(h:gd a0):R (a0.map aa.row)=some ((aG.r (md a0).1),(md a0).2):=aR (a:=a0) h
def aW:=CN [pL 123] (.iW [(true,f102),(false,[fB])]) RT.dec R
def bB (a0)(hg:gd a0):F (a0.map aa.row)=ret ((aG.r (md a0).1),(md a0).2):=by
 unfold gd at hg
 have H0:=hg
 unfold F md
 try simp only [SS]
 refine ct (Z73.aq H0) ?_
 refine ay (fun b:aG×Bool=>ret (((aG.r b.1),b.2):ck×Bool)) (fun c1=>?_) (fun c1=>?_)
 ·all_goals exact fz
 ·have dc1:=c1
  try simp only [DC] at dc1
  try have tc1:=Z73.tr (by simpa using c1)
  refine ak (have:=(H0).1;dt) ?_
  refine ak (have:=(H0).1;dt) ?_
  refine ct (Z40.aq (bO.getD (z:=aa.zero) H0 (by first | assumption | omega | (simp (disch:=omega) only [wi];omega) | (simp;omega))).1) ?_
  try simp only [SS]
  all_goals exact fz
def af:cG 71 aW:=W1 16 F mix aF bB (.cons Z73.af (.cons Z40.af .nil)) Tryz.func71
def head {l:List aa}(h:(md l).2=true):Z73.md l=true/\(md l).1=(l.getD (l.length - 1) aa.zero).au/\Z51.md (md l).1=true:=by
 unfold md at h ⊢
 cases hc:Z73.md l
 ·rw [hc] at h;cases h
 ·have hl:=Z73.tr hc
  have hw:toNat (i64.wrap ((l.length:Int) - 1))=l.length - 1:=by
   rw [Go.IntWalk.i64_in _ (by omega)];omega
  simp only [Bool.not_true,bA,hw]
  exact ⟨trivial,trivial,Z73.qY hc _ (by omega)⟩
end Z74
namespace Z75
def F (x0:bf):aK:=(cond (x0.bM==1) (call (Z46.R x0.bn) fun v1=>(cond v1 (call (Z45.R (x0.cq,0,999999)) fun v2=>(cond v2 (ret (((x0.bH.length:Int)==0):Bool)) bh)) bh)) (cond (x0.bM==2) (call (Z46.R x0.bn) fun v3=>(cond v3 (call (Z45.R (x0.cq,0,2147483646)) fun v4=>(cond v4 (ret (((x0.bH.length:Int)==0):Bool)) bh)) bh)) (cond (x0.bM==3) (call (Z46.R x0.bn) fun v5=>(cond v5 (call (Z45.R (x0.cq,0,2147483646)) fun v6=>(cond v6 (call (Z47.R x0.bH) fun v7=>ret (v7:Bool)) bh)) bh)) bh)))
def md (a0:ah):Bool:=(cond (a0.bM==1) (cond (Z46.md a0.bn) (cond (Z45.md a0.cq 0 999999) (((a0.bH.length:Int)==0):Bool) (false:Bool)) (false:Bool)) (cond (a0.bM==2) (cond (Z46.md a0.bn) (cond (Z45.md a0.cq 0 2147483646) (((a0.bH.length:Int)==0):Bool) (false:Bool)) (false:Bool)) (cond (a0.bM==3) (cond (Z46.md a0.bn) (cond (Z45.md a0.cq 0 2147483646) ((Z47.md a0.bH):Bool) (false:Bool)) (false:Bool)) (false:Bool))))
def gd (a0:ah):Prop:=(ah.Sm (2^21) a0)
def R:=RR gd md
def aq {a0}(h:gd a0):R (ah.r a0)=some (md a0):=aR (a:=a0) h
def aW:=CN [.agg sn] oB RT.dec R
def bB (a0)(hg:gd a0):F (ah.r a0)=ret (md a0):=by
 unfold gd at hg
 have H0:=hg
 unfold F md
 try simp only [SS]
 refine ay ret (fun c1=>?_) (fun c1=>?_)
 ·refine ct (Z46.aq (le_trans H0.1 (by decide))) ?_
  refine ay ret (fun c2=>?_) (fun _=>rfl)
  refine ct (Z45.aq trivial) ?_
  refine ay ret (fun c3=>?_) (fun _=>rfl)
  all_goals exact fz
 ·refine ay ret (fun c4=>?_) (fun c4=>?_)
  ·refine ct (Z46.aq (le_trans H0.1 (by decide))) ?_
   refine ay ret (fun c5=>?_) (fun _=>rfl)
   refine ct (Z45.aq trivial) ?_
   refine ay ret (fun c6=>?_) (fun _=>rfl)
   all_goals exact fz
  ·refine ay ret (fun c7=>?_) (fun _=>rfl)
   refine ct (Z46.aq (le_trans H0.1 (by decide))) ?_
   refine ay ret (fun c8=>?_) (fun _=>rfl)
   refine ct (Z45.aq trivial) ?_
   refine ay ret (fun c9=>?_) (fun _=>rfl)
   refine ct (Z47.aq (H0.2.mono (by decide) (fun x hx=>(le_trans hx (by decide))))) ?_
   all_goals exact fz
def af:cG 408 aW:=W1 52 F mix aF bB (.cons Z46.af (.cons Z45.af (.cons Z47.af .nil))) Tryz.func408
end Z75
namespace Z76
def F (x0 x1:aE):aK:=(cond (Op.bytesLess x0.toList x1.toList) (ret ((-1):Int)) (cond (!((Op.bytesLess x0.toList x1.toList)||(x0.toList==x1.toList))) (ret (1:Int)) (ret (0:Int))))
def md (a0 a1:aE):Int:=(cond (Op.bytesLess a0.toList a1.toList) ((-1):Int) (cond (!((Op.bytesLess a0.toList a1.toList)||(a0.toList==a1.toList))) (1:Int) (0:Int)))
def gd (a0 a1:aE):Prop:=True
def R:=RR (p2 gd) (u2 md)
def aq {a0 a1}(h:gd a0 a1):R (a0,a1)=some (md a0 a1):=aR (a:=(a0,a1)) h
def aW:=CN [pS,pS] oI RT.dec R
def bB (a0)(a1)(hg:gd a0 a1):F a0 a1=ret (md a0 a1):=by
 unfold F md
 try simp only [SS]
 refine ay ret (fun _=>rfl) (fun c1=>?_)
 refine ay ret (fun _=>rfl) (fun _=>rfl)
def af:cG 195 aW:=W2 13 F mix aF bB .nil Tryz.func195
def vals (a b:aE):md a b=-1∨md a b=0∨md a b=1:=by
 unfold md
 cases Op.bytesLess a.toList b.toList
 ·cases (!(false||(a.toList==b.toList)))<;>simp
 ·simp
def lt (a b:aE):decide (md a b<0)=(md a b == -1):=by
 rcases vals a b with h | h | h<;>rw [h]<;>rfl
def gt (a b:aE):decide (md a b>0)=(md a b==1):=by
 rcases vals a b with h | h | h<;>rw [h]<;>rfl
def bl:∀a b:List UInt8,(Op.bytesLess a b||a==b)=!(Op.bytesLess b a)
 | [],[]=>by simp [Op.bytesLess]
 | [],_::_=>by simp [Op.bytesLess]
 | _::_,[]=>by simp [Op.bytesLess]
 | a::xs,b::ys=>by
  have ih:=bl xs ys
  simp only [Op.bytesLess]
  by_cases h1:a<b
  ·have h2:¬b<a:=UInt8.not_lt.2 (UInt8.le_of_lt h1)
   have h3:¬b=a:=fun h=>by subst h;exact UInt8.lt_irrefl _ h1
   simp [h1,h2,h3]
  ·by_cases h2:a=b
   ·subst h2
    have hr:¬a<a:=UInt8.lt_irrefl a
    simp only [hr,decide_false,Bool.false_or,beq_self_eq_true,Bool.true_and,List.cons_beq_cons]
    exact ih
   ·have h3:b<a:=by
     rcases UInt8.lt_or_lt_of_ne h2 with h | h
     ·exact (h1 h).elim
     ·exact h
    simp [h1,h2,h3,List.cons_beq_cons]
def swap (a b:aE):decide (md a b<=0)=(md b a != -1):=by
 unfold md
 rw [bl a.toList b.toList,bl b.toList a.toList]
 have h:=bl a.toList b.toList
 cases h1:Op.bytesLess a.toList b.toList<;>cases h2:Op.bytesLess b.toList a.toList<;>rw [h1,h2] at h<;>simp at h ⊢
end Z76
namespace Z77
inductive Pt where
 | p0 (a:aD) (b:Int)
def pid:Pt->Nat
 | .p0 ..=>2
def cg:Pt->List V
 | .p0 a b=>[.sl none 61 a,.int .i64 b]
def bZ:Pt->List aZ
 | .p0 a b=>[]
def step (J:Pt->aK):Pt->aK
 | .p0 a b=>(cond (decide (b<(a.length:Int))) (m2 b (a.length:Int) (call (Z75.R (bf.at a (toNat b))) fun v1=>(cond (!v1) bh (cond (decide (b>0)) (cm (decide ((0:Int)<=(i64.wrap (b - 1)))) (cm (decide ((i64.wrap (b - 1))<(a.length:Int))) (m2 b (a.length:Int) (call (Z76.R ((bf.at a (toNat (i64.wrap (b - 1)))).bn,(bf.at a (toNat b)).bn)) fun v2=>(cond (v2 != (-1)) bh (J (.p0 a (i64.wrap (b+1))))))))) (J (.p0 a (i64.wrap (b+1)))))))) (ret ((decide ((a.length:Int)<=12)):Bool)))
def start (J:Pt->aK)(x0:aD):aK:=J (.p0 x0 0)
def live:Nat->Live:=fun i=>match i with | 2=>[(0,none),(3,none)] | _=>[]
def md (a0:List ah):Bool:=(dJ (S:=Unit) (β:=Bool) (fun (i1:Nat) (y1:ah) (s3:Unit)=>(cond (!(Z75.md y1)) (.inr (false:Bool)) (cond (decide ((i1:Int)>0)) (cond ((Z76.md ((a0.getD (toNat (i64.wrap ((i1:Int) - 1))) ah.zero).bn) (y1.bn)) != (-1)) (.inr (false:Bool)) (.inl ())) (.inl ())))) (fun (s3:Unit)=>((decide ((a0.length:Int)<=12)):Bool)) 0 a0 ())
def gd (a0:List ah):Prop:=(bO (2^21) (fun y:ah=>ah.Sm (2^21) y) a0)
def R:=RR gd md
def aq {a0}(h:gd a0):R (a0.map ah.row)=some (md a0):=aR (a:=a0) h
def aW:=CN [pL 61] oB RT.dec R
def bB (a0)(hg:gd a0):∃n,start (iter step n) (a0.map ah.row)=ret (md a0):=by
 unfold gd at hg
 have H0:=hg
 unfold start md
 try simp only [SS]
 have Bh2:a0.length<=maxLen:=(by
   have:=(H0).1
   try simp only [maxLen] at *
   omega)
 refine ex_eq (out:=ret) (dc (z:=ah.zero)) ?_
 refine dR (p:=Pt.p0 (a0.map ah.row) 0) fz ?_
 refine cu (pt:=fun (i1:Nat) (s3:Unit)=>Pt.p0 (a0.map ah.row) (i1:Int)) (s:=(():Unit)) (out:=ret) (fun _ _=>True) (fun J i1 s3 h2 hih2=>?_) (fun s3 hih2=>?_) trivial
 ·simp only [step,SS]
  have bb_:=Bh2
  simp only [maxLen] at bb_
  have:=(H0).1
  refine bD.yes (by apply decide_eq_true;omega) ?_
  refine bD.yes aJ ?_
  refine bD.yes (aL h2) ?_
  refine cr (Z75.aq (bO.getD (z:=ah.zero) H0 h2)) ?_
  refine bD.bif (fun _=>bD.inr rfl) (fun c4=>?_)
  have dc4:=c4
  try simp only [DC] at dc4
  refine bD.bif (fun c5=>?_) (fun c5=>?_)
  ·have dc5:=c5
   try simp only [DC] at dc5
   refine bD.yes dt ?_
   refine bD.yes (have:=(H0).1;dt) ?_
   refine bD.yes aJ ?_
   refine bD.yes (aL h2) ?_
   refine cr (Z76.aq trivial) ?_
   refine bD.bif (fun _=>bD.inr rfl) (fun c6=>?_)
   refine bD.inl trivial ?_
   rw [aI h2 Bh2]
   all_goals exact fz
  ·refine bD.inl trivial ?_
   rw [aI h2 Bh2]
   all_goals exact fz
 ·simp only [step,SS]
  have:=(H0).1
  refine dF (by apply decide_eq_false;omega) ?_
  refine ⟨0,?_⟩
  all_goals exact fz
def af:cG 463 aW:=L1 38 pid cg bZ live step start mix aF bB (.cons Z75.af (.cons Z76.af .nil)) Tryz.func463
end Z77
namespace Z78
inductive Pt where
 | p0 (a:aD) (b:Int) (c:aD)
def pid:Pt->Nat
 | .p0 ..=>3
def cg:Pt->List V
 | .p0 a b c=>[.sl none 5 a,.own 0,.int .i64 b]
def bZ:Pt->List aZ
 | .p0 a b c=>[.row 3 c]
def step (J:Pt->aK):Pt->aK
 | .p0 a b c=>(cond (decide (b<(a.length:Int))) (m2 b (a.length:Int) (cm (ff (((c.length:Int)+1)*8)) (J (.p0 a (i64.wrap (b+1)) (c++[[L.int (i64.wrap (jG a (toNat b)))]]))))) (ret (c:aD)))
def start (J:Pt->aK)(x0:aD):aK:=J (.p0 x0 0 [[L.int (x0.length:Int)]])
def live:Nat->Live:=fun i=>match i with | 3=>[(0,none),(3,none),(4,none)] | _=>[]
def md (a0:List Int):List Int:=([(a0.length:Int)]++a0.map (fun (y1:Int)=>(i64.wrap y1)))
def gd (a0:List Int):Prop:=(bO (2^38) (fun y:Int=>True) a0)
def R:=RR gd md
def aq {a0}(h:gd a0):R (a0.map bu)=some ((md a0).map bu):=aR (a:=a0) h
def aW:=CN [pL 5] (oL 3) RT.dec R
def bB (a0)(hg:gd a0):∃n,start (iter step n) (a0.map bu)=ret ((md a0).map bu):=by
 unfold gd at hg
 have H0:=hg
 unfold start md
 try simp only [SS]
 have Bh2:a0.length<=maxLen:=(by
   have:=(H0).1
   try simp only [maxLen] at *
   omega)
 refine ex_eq (out:=(fun b:List Int=>ret ((b.map bu):aD))) (mo (g:=fun (y1:Int)=>(i64.wrap y1)) (z:=0) (t:=fun (s3:List Int)=>s3) (s:=[(a0.length:Int)])) ?_
 refine dR (p:=Pt.p0 (a0.map bu) 0 ([(a0.length:Int)].map bu)) fz ?_
 refine cu (pt:=fun (i1:Nat) (s3:List Int)=>Pt.p0 (a0.map bu) (i1:Int) (s3.map bu)) (s:=([(a0.length:Int)]:List Int)) (out:=(fun b:List Int=>ret ((b.map bu):aD))) (fun (i1:Nat) (s3:List Int)=>s3.length<=[(a0.length:Int)].length+1*i1) (fun J i1 s3 h2 hih2=>?_) (fun s3 hih2=>?_) (by simp)
 ·simp only [step,SS]
  have gr_:=hih2
  try simp only [LN] at gr_
  have:=(H0).1
  have bb_:=Bh2
  simp only [maxLen] at bb_
  have:=(H0).1
  refine bD.yes (by apply decide_eq_true;omega) ?_
  refine bD.yes aJ ?_
  refine bD.yes (aL h2) ?_
  refine bD.yes lm ?_
  refine bD.inl (by
    have g_:=hih2
    try simp only [LN] at g_ ⊢
    first | omega | (simp;done) | (simp;omega)) ?_
  rw [aI h2 Bh2]
  all_goals exact fz
 ·simp only [step,SS]
  have gr_:=hih2
  try simp only [LN] at gr_
  have:=(H0).1
  have:=(H0).1
  refine dF (by apply decide_eq_false;omega) ?_
  refine ⟨0,?_⟩
  all_goals exact fz
def af:cG 593 aW:=L1 23 pid cg bZ live step start mix aF bB .nil Tryz.func593
def len (a0:List Int):(md a0).length=1+a0.length:=by simp [md];omega
end Z78
namespace Z79
def F (x0:aE):aK:=(cm (decide ((x0.size:Int)<=140737488355328)) (call (Z78.R (iH x0)) fun v1=>ret (v1:aD)))
def md (a0:aE):List Int:=(Z78.md (jh a0))
def gd (a0:aE):Prop:=(a0.size<=(2^21))
def R:=RR gd md
def aq {a0}(h:gd a0):R a0=some ((md a0).map bu):=aR (a:=a0) h
def aW:=CN [pS] (oL 3) RT.dec R
def bB (a0)(hg:gd a0):F a0=ret ((md a0).map bu):=by
 unfold gd at hg
 have H0:=hg
 unfold F md
 try simp only [SS]
 refine ak (have:=H0;dt) ?_
 refine bg ((Z78.md (jh a0)).map bu) (rq (Z78.aq (a0:=(jh a0)) ⟨(have:=gX a0;have:=H0;om),fun _ _=>trivial⟩)) ?_
 try simp only [SS]
 all_goals exact fz
def af:cG 580 aW:=W1 6 F mix aF bB (.cons Z78.af .nil) Tryz.func580
def len (a0:aE):(md a0).length=1+a0.size:=by simp [md,Z78.len,gX]
end Z79
namespace Z80
inductive Pt where
 | p0 (a:Int) (b:bf) (c:aD)
def pid:Pt->Nat
 | .p0 ..=>3
def cg:Pt->List V
 | .p0 a b c=>[.dy 0 0,.own 1,.int .i64 a]
def bZ:Pt->List aZ
 | .p0 a b c=>[.box [.str b.bn,.int .i64 b.bM,.int .i64 b.cq,.sl none 9 b.bH],.row 3 c]
def step (J:Pt->aK):Pt->aK
 | .p0 a b c=>(cond (decide (a<(b.bH.length:Int))) (m2 a (b.bH.length:Int) (call (Z79.R (qk b.bH (toNat a))) fun v1=>(cm (ff (((c.length:Int)+(v1.length:Int))*8)) (J (.p0 (i64.wrap (a+1)) b (c++v1)))))) (ret (c:aD)))
def start (J:Pt->aK)(x0:bf):aK:=(call (Z79.R x0.bn) fun v1=>(cm (ff (((v1.length:Int)+3)*8)) (J (.p0 0 x0 (v1++[[L.int x0.bM],[L.int x0.cq],[L.int (x0.bH.length:Int)]])))))
def live:Nat->Live:=fun i=>match i with | 3=>[(1,none),(3,none),(4,none)] | _=>[]
def md (a0:ah):List Int:=(((Z79.md a0.bn)++[a0.bM,a0.cq,(a0.bH.length:Int)])++a0.bH.flatMap (fun (y1:aE)=>(Z79.md y1)))
def gd (a0:ah):Prop:=(ah.Sm (2^21) a0)
def R:=RR gd md
def aq {a0}(h:gd a0):R (ah.r a0)=some ((md a0).map bu):=aR (a:=a0) h
def aW:=CN [.agg sn] (oL 3) RT.dec R
def bB (a0)(hg:gd a0):∃n,start (iter step n) (ah.r a0)=ret ((md a0).map bu):=by
 unfold gd at hg
 have H0:=hg
 unfold start md
 try simp only [SS]
 refine cx (Z79.aq H0.1) ?_
 try simp only [SS]
 refine dK (have:=Z79.len a0.bn;have:=H0.1;lm) ?_
 have Bh2:a0.bH.length<=maxLen:=(by
   have:=(H0.2).1
   try simp only [maxLen] at *
   omega)
 refine ex_eq (out:=(fun b:List Int=>ret ((b.map bu):aD))) (qG (g:=fun (y1:aE)=>(Z79.md y1)) (z:=⟨#[]⟩) (t:=fun (s3:List Int)=>s3) (s:=((Z79.md a0.bn)++[a0.bM,a0.cq,(a0.bH.length:Int)]))) ?_
 refine dR (p:=Pt.p0 0 (ah.r a0) (((Z79.md a0.bn)++[a0.bM,a0.cq,(a0.bH.length:Int)]).map bu)) fz ?_
 refine cu (pt:=fun (i1:Nat) (s3:List Int)=>Pt.p0 (i1:Int) (ah.r a0) (s3.map bu)) (s:=(((Z79.md a0.bn)++[a0.bM,a0.cq,(a0.bH.length:Int)]):List Int)) (out:=(fun b:List Int=>ret ((b.map bu):aD))) (fun (i1:Nat) (s3:List Int)=>s3.length<=4+a0.bn.size+i1*(2^21+1)) (fun J i1 s3 h2 hih2=>?_) (fun s3 hih2=>?_) (by
   have:=(H0.2).1
   have:=Z79.len a0.bn
   have:=H0.1
   try simp only [LN]
   try simp
   try omega)
 ·simp only [step,SS]
  have gr_:=hih2
  try simp only [LN] at gr_
  have:=H0.1
  have bb_:=Bh2
  simp only [maxLen] at bb_
  have:=(H0.2).1
  refine bD.yes (by apply decide_eq_true;omega) ?_
  refine bD.yes aJ ?_
  refine bD.yes (aL h2) ?_
  refine cr (Z79.aq (bO.getD (z:=⟨#[]⟩) H0.2 h2)) ?_
  try simp only [SS]
  refine bD.yes (have:=Z79.len (a0.bH.getD i1 ⟨#[]⟩);have:=(bO.getD (z:=⟨#[]⟩) H0.2 h2);lm) ?_
  refine bD.inl (by
    have:=Z79.len (a0.bH.getD i1 ⟨#[]⟩)
    have:=(bO.getD (z:=⟨#[]⟩) H0.2 h2)
    have g_:=hih2
    try simp only [LN] at g_ ⊢
    first | omega | (simp;done) | (simp;omega)) ?_
  rw [aI h2 Bh2]
  all_goals exact fz
 ·simp only [step,SS]
  have gr_:=hih2
  try simp only [LN] at gr_
  have:=H0.1
  have:=(H0.2).1
  refine dF (by apply decide_eq_false;omega) ?_
  refine ⟨0,?_⟩
  all_goals exact fz
def af:cG 546 aW:=L1 33 pid cg bZ live step start mix aF bB (.cons Z79.af .nil) Tryz.func546
def fW {a0:ah}(hg:gd a0):bO (2^43 - 1) (fun y:Int=>True) (md a0):=by
 unfold gd at hg
 refine ⟨?_,fun _ _=>trivial⟩
 unfold md
 have h1:=lM (xs:=a0.bH) (g:=fun y=>Z79.md y) (n:=2^21+1) (fun x hx=>by rw [Z79.len];have:=hg.2.2 x hx;omega)
 have h2:=hg.1
 have h3:=hg.2.1
 have h4:=Z79.len a0.bn
 simp only [List.length_append,List.length_cons,List.length_nil]
 omega
end Z80
namespace Z81
def F (x0:bf):aK:=(call (Z80.R x0) fun v1=>(cm (ff (((1:Int)+(v1.length:Int))*8)) (call (Z54.R ([[L.int 227]]++v1)) fun v2=>ret (v2:Int))))
def md (a0:ah):Int:=((Z54.md ([227]++(Z80.md a0))):Int)
def gd (a0:ah):Prop:=(ah.Sm (2^21) a0)
def R:=RR gd md
def aq {a0}(h:gd a0):R (ah.r a0)=some (md a0):=aR (a:=a0) h
def aW:=CN [.agg sn] oI RT.dec R
def bB (a0)(hg:gd a0):F (ah.r a0)=ret (md a0):=by
 unfold gd at hg
 have H0:=hg
 unfold F md
 try simp only [SS]
 refine ct (Z80.aq H0) ?_
 try simp only [SS]
 refine ak (have:=((Z80.fW (a0:=a0) H0)).1;lm) ?_
 refine bg (Z54.md ([227]++(Z80.md a0))) (rq (Z54.aq (a0:=([227]++(Z80.md a0))) ⟨(have:=((Z80.fW (a0:=a0) H0)).1;om),fun _ _=>trivial⟩)) ?_
 all_goals exact fz
def af:cG 470 aW:=W1 8 F mix aF bB (.cons Z80.af (.cons Z54.af .nil)) Tryz.func470
end Z81
namespace Z82
inductive Pt where
 | p0 (a:aD) (b:Int) (c:aD)
def pid:Pt->Nat
 | .p0 ..=>3
def cg:Pt->List V
 | .p0 a b c=>[.sl none 61 a,.own 0,.int .i64 b]
def bZ:Pt->List aZ
 | .p0 a b c=>[.row 3 c]
def step (J:Pt->aK):Pt->aK
 | .p0 a b c=>(cond (decide (b<(a.length:Int))) (m2 b (a.length:Int) (call (Z81.R (bf.at a (toNat b))) fun v1=>(cm (ff (((c.length:Int)+1)*8)) (J (.p0 a (i64.wrap (b+1)) (c++[[L.int v1]])))))) (ret (c:aD)))
def start (J:Pt->aK)(x0:aD):aK:=J (.p0 x0 0 [])
def live:Nat->Live:=fun i=>match i with | 3=>[(0,none),(3,some 3),(4,none)] | _=>[]
def md (a0:List ah):List Int:=(a0.map (fun (y1:ah)=>(Z81.md y1)))
def gd (a0:List ah):Prop:=(bO (2^21) (fun y:ah=>ah.Sm (2^21) y) a0)
def R:=RR gd md
def aq {a0}(h:gd a0):R (a0.map ah.row)=some ((md a0).map bu):=aR (a:=a0) h
def aW:=CN [pL 61] (oL 3) RT.dec R
def bB (a0)(hg:gd a0):∃n,start (iter step n) (a0.map ah.row)=ret ((md a0).map bu):=by
 unfold gd at hg
 have H0:=hg
 unfold start md
 try simp only [SS]
 have Bh2:a0.length<=maxLen:=(by
   have:=(H0).1
   try simp only [maxLen] at *
   omega)
 refine ex_eq (out:=(fun b:List Int=>ret ((b.map bu):aD))) (ng (g:=fun (y1:ah)=>(Z81.md y1)) (z:=ah.zero) (t:=fun (s3:List Int)=>s3)) ?_
 refine dR (p:=Pt.p0 (a0.map ah.row) 0 ([].map bu)) fz ?_
 refine cu (pt:=fun (i1:Nat) (s3:List Int)=>Pt.p0 (a0.map ah.row) (i1:Int) (s3.map bu)) (s:=([]:List Int)) (out:=(fun b:List Int=>ret ((b.map bu):aD))) (fun (i1:Nat) (s3:List Int)=>s3.length<=([]:List Int).length+1*i1) (fun J i1 s3 h2 hih2=>?_) (fun s3 hih2=>?_) (by simp)
 ·simp only [step,SS]
  have gr_:=hih2
  try simp only [LN] at gr_
  have bb_:=Bh2
  simp only [maxLen] at bb_
  have:=(H0).1
  refine bD.yes (by apply decide_eq_true;omega) ?_
  refine bD.yes aJ ?_
  refine bD.yes (aL h2) ?_
  refine cr (Z81.aq (bO.getD (z:=ah.zero) H0 h2)) ?_
  refine bD.yes lm ?_
  refine bD.inl (by
    have g_:=hih2
    try simp only [LN] at g_ ⊢
    first | omega | (simp;done) | (simp;omega)) ?_
  rw [aI h2 Bh2]
  all_goals exact fz
 ·simp only [step,SS]
  have gr_:=hih2
  try simp only [LN] at gr_
  have:=(H0).1
  refine dF (by apply decide_eq_false;omega) ?_
  refine ⟨0,?_⟩
  all_goals exact fz
def af:cG 462 aW:=L1 21 pid cg bZ live step start mix aF bB (.cons Z81.af .nil) Tryz.func462
def len (a0:List ah):(md a0).length=a0.length:=by simp [md]
end Z82
namespace Z83
def F (x0 x1:Int):aK:=(call (Z54.R [[L.int 229],[L.int x0],[L.int x1]]) fun v1=>ret (v1:Int))
def md (a0 a1:Int):Int:=((Z54.md [229,a0,a1]):Int)
def gd (a0 a1:Int):Prop:=True
def R:=RR (p2 gd) (u2 md)
def aq {a0 a1}(h:gd a0 a1):R (a0,a1)=some (md a0 a1):=aR (a:=(a0,a1)) h
def aW:=CN [pI,pI] oI RT.dec R
def bB (a0)(a1)(hg:gd a0 a1):F a0 a1=ret (md a0 a1):=by
 unfold F md
 try simp only [SS]
 refine bg (Z54.md [229,a0,a1]) (rq (Z54.aq (a0:=[229,a0,a1]) ⟨(om),fun _ _=>trivial⟩)) ?_
 all_goals exact fz
def af:cG 545 aW:=W2 9 F mix aF bB (.cons Z54.af .nil) Tryz.func545
end Z83
namespace Z84
inductive Pt where
 | p0 (a:aD) (b:Int) (c:aD)
def pid:Pt->Nat
 | .p0 ..=>3
def cg:Pt->List V
 | .p0 a b c=>[.sl none 3 a,.own 0,.int .i64 b]
def bZ:Pt->List aZ
 | .p0 a b c=>[.row 3 c]
def step (J:Pt->aK):Pt->aK
 | .p0 a b c=>(cond (decide (b<(a.length:Int))) (cond (decide ((i64.wrap (b+1))<(a.length:Int))) (m2 b (a.length:Int) (cm (decide ((0:Int)<=(i64.wrap (b+1)))) (cm (decide ((i64.wrap (b+1))<(a.length:Int))) (call (Z83.R ((jG a (toNat b)),(jG a (toNat (i64.wrap (b+1)))))) fun v1=>(cm (ff (((c.length:Int)+1)*8)) (J (.p0 a (i64.wrap (b+2)) (c++[[L.int v1]])))))))) (m2 b (a.length:Int) (cm (ff (((c.length:Int)+1)*8)) (J (.p0 a (i64.wrap (b+2)) (c++[[L.int (jG a (toNat b))]])))))) (ret (c:aD)))
def start (J:Pt->aK)(x0:aD):aK:=J (.p0 x0 0 [])
def live:Nat->Live:=fun i=>match i with | 3=>[(0,none),(3,some 3),(4,none)] | _=>[]
def up:List Int->List Int
 | []=>[]
 | [a]=>[a]
 | a::b::r=>Z83.md a b::up r
def ku:∀l:List Int,(up l).length=(l.length+1) / 2
 | []=>by simp [up]
 | [_]=>by simp [up]
 | _::_::r=>by
  have:=ku r
  simp only [up,List.length_cons]
  omega
def md (a0:List Int):List Int:=up a0
def gd (a0:List Int):Prop:=bO (2^38) (fun y:Int=>True) a0
def R:=RR gd md
def aq {a0}(h:gd a0):R (a0.map bu)=some ((md a0).map bu):=aR (a:=a0) h
def aW:=CN [pL 3] (oL 3) RT.dec R
def bB (a0)(hg:gd a0):∃n,start (iter step n) (a0.map bu)=ret ((md a0).map bu):=by
 obtain ⟨H1,_⟩:=hg
 have key:∀(k i:Nat) (c:List Int),i+k=a0.length->c.length<=i->∃n,iter step n (Pt.p0 (a0.map bu) (i:Int) (c.map bu))=ret ((c++up (a0.drop i)).map bu:aD):=by
  intro k
  induction k using Nat.strongRecOn with
  | _ k ih=>
  intro i c hi hc
  match k,hi,ih with
  | 0,hi,_=>
   refine ⟨1,?_⟩
   show step (iter step 0) (Pt.p0 _ _ _)=_
   simp only [step,List.length_map]
   refine cM (decide_eq_false (by omega)) ?_
   rw [List.drop_eq_nil_of_le (by omega)]
   simp only [up,List.append_nil]
  | 1,hi,ih=>
   obtain ⟨n,hn⟩:=ih 0 (by omega) (i+1) (c++[a0.getD i 0]) (by omega) (by simp;omega)
   have h2:∃n,iter step n (Pt.p0 (a0.map bu) (i64.wrap ((i:Int)+2)) ((c++[a0.getD i 0]).map bu))=ret ((c++[a0.getD i 0]).map bu:aD):=by
    refine ⟨1,?_⟩
    show step (iter step 0) (Pt.p0 _ _ _)=_
    simp only [step,List.length_map]
    refine cM (decide_eq_false ?_) rfl
    rw [Go.IntWalk.i64_in _ (by omega)];omega
   obtain ⟨n,hn⟩:=h2
   refine ⟨n+1,?_⟩
   show step (iter step n) (Pt.p0 _ _ _)=_
   simp only [step,List.length_map,cB,gU]
   refine ak (decide_eq_true (by omega)) (cM (decide_eq_false ?_) (ak (decide_eq_true (by omega)) (ak (decide_eq_true (by omega)) (ak (je (by omega)) ?_))))
   ·rw [Go.IntWalk.i64_in _ (by omega)];omega
   ·rw [List.map_append] at hn
    refine Eq.trans hn ?_
    rw [List.drop_eq_getElem_cons (by omega),List.drop_eq_nil_of_le (by omega),eS (by omega:i<a0.length)]
    simp only [up,List.map_append]
  | k+2,hi,ih=>
   obtain ⟨n,hn⟩:=ih k (by omega) (i+2) (c++[Z83.md (a0.getD i 0) (a0.getD (i+1) 0)]) (by omega) (by simp;omega)
   refine ⟨n+1,?_⟩
   show step (iter step n) (Pt.p0 _ _ _)=_
   have w1:i64.wrap ((i:Int)+1)=((i+1:Nat):Int):=by rw [Go.IntWalk.i64_in _ (by omega)];omega
   have w2:i64.wrap ((i:Int)+2)=((i+2:Nat):Int):=by rw [Go.IntWalk.i64_in _ (by omega)];omega
   simp only [step,List.length_map,w1,w2,cB,gU]
   refine ak (decide_eq_true (by omega)) (ak (decide_eq_true (by omega)) (ak (decide_eq_true (by omega)) (ak (decide_eq_true (by omega)) (ak (decide_eq_true (by omega)) (ak (decide_eq_true (by omega)) ?_)))))
   refine bg (Z83.md (a0.getD i 0) (a0.getD (i+1) 0)) (Z83.aq trivial) (ak (je (by omega)) ?_)
   rw [List.map_append] at hn
   refine Eq.trans hn ?_
   rw [List.drop_eq_getElem_cons (by omega:i<a0.length),List.drop_eq_getElem_cons (by omega:i+1<a0.length),eS (by omega:i<a0.length),eS (by omega:i+1<a0.length)]
   simp only [up,List.append_assoc,List.cons_append,List.nil_append]
 have:=key a0.length 0 [] (by omega) (by simp)
 unfold start md
 simpa using this
def af:cG 539 aW:=L1 38 pid cg bZ live step start mix aF bB (.cons Z83.af .nil) Tryz.func539
end Z84
namespace Z85
inductive Pt where
 | p0 (a:aD)
 | p1 (a:aD)
def pid:Pt->Nat
 | .p0 ..=>4
 | .p1 ..=>4
def cg:Pt->List V
 | .p0 a=>[.sl none 3 a]
 | .p1 a=>[.own 0]
def bZ:Pt->List aZ
 | .p0 a=>[]
 | .p1 a=>[.row 3 a]
def step (J:Pt->aK):Pt->aK
 | .p0 a=>(cond (decide ((a.length:Int)>1)) (call (Z84.R a) fun v1=>J (.p1 v1)) (cm (decide ((0:Int)<(a.length:Int))) (ret ((jG a 0):Int))))
 | .p1 a=>(cond (decide ((a.length:Int)>1)) (call (Z84.R a) fun v1=>J (.p1 v1)) (cm (decide ((0:Int)<(a.length:Int))) (ret ((jG a 0):Int))))
def start (J:Pt->aK)(x0:aD):aK:=(cond ((x0.length:Int)==0) (call (Z54.R [[L.int 229]]) fun v1=>ret (v1:Int)) (J (.p0 x0)))
def live:Nat->Live:=fun i=>match i with | 4=>[(3,none)] | _=>[]
def top:Nat->List Int->Int
 | 0,l=>l.getD 0 0
 | k+1,l=>if l.length>1 then top k (Z84.up l) else l.getD 0 0
def md (a0:List Int):Int:=(if a0.length=0 then Z54.md [229] else top a0.length a0)
def gd (a0:List Int):Prop:=bO (2^38) (fun y:Int=>True) a0
def R:=RR gd md
def aq {a0}(h:gd a0):R (a0.map bu)=some (md a0):=aR (a:=a0) h
def aW:=CN [pL 3] oI RT.dec R
def bB (a0)(hg:gd a0):∃n,start (iter step n) (a0.map bu)=ret (md a0):=by
 have one:∀(l:List Int) (r:Int) (n:Nat),bO (2^38) (fun y:Int=>True) l->0<l.length->(if l.length>1 then iter step n (Pt.p1 ((Z84.up l).map bu))=ret r else ret (l.getD 0 0:Int)=ret r)->step (iter step n) (Pt.p0 (l.map bu))=ret r/\step (iter step n) (Pt.p1 (l.map bu))=ret r:=by
  intro l r n hl hp h
  simp only [step,List.length_map,gU]
  by_cases h1:l.length>1
  ·rw [if_pos h1] at h
   have hx:∀y:aK,(cond (decide ((l.length:Int)>1)) (call (Z84.R (l.map bu)) (fun v1=>iter step n (Pt.p1 v1))) y)=ret r:=fun y=>
    ak (decide_eq_true (by omega)) (bg ((Z84.up l).map bu) (Z84.aq hl) h)
   exact ⟨hx _,hx _⟩
  ·rw [if_neg h1] at h
   have hx:∀y:aK,(cond (decide ((l.length:Int)>1)) y (cond (decide ((0:Int)<(l.length:Int))) (ret (l.getD 0 0:Int)) none))=ret r:=fun y=>
    cM (decide_eq_false (by omega)) (ak (decide_eq_true (by omega)) h)
   exact ⟨hx _,hx _⟩
 have key:∀(k:Nat) (l:List Int),bO (2^38) (fun y:Int=>True) l->0<l.length->l.length<=k+1->∃n,step (iter step n) (Pt.p0 (l.map bu))=ret (top k l)/\step (iter step n) (Pt.p1 (l.map bu))=ret (top k l):=by
  intro k
  induction k with
  | zero=>
   intro l hl hp hk
   exact ⟨0,one l _ 0 hl hp (by rw [if_neg (by omega)];rfl)⟩
  | succ k ih=>
   intro l hl hp hk
   by_cases h1:l.length>1
   ·have hu:=Z84.ku l
    have hl1:=hl.1
    obtain ⟨n,_,hn⟩:=ih (Z84.up l) ⟨by omega,fun _ _=>trivial⟩ (by omega) (by omega)
    refine ⟨n+1,one l _ (n+1) hl hp ?_⟩
    rw [if_pos h1]
    refine Eq.trans hn ?_
    unfold top
    rw [if_pos h1]
    cases k<;>rfl
   ·refine ⟨0,one l _ 0 hl hp ?_⟩
    rw [if_neg h1]
    unfold top
    rw [if_neg h1]
 unfold md
 unfold start
 simp only [List.length_map]
 by_cases h0:a0.length=0
 ·have e:((a0.length:Int)==0)=true:=by simpa using List.length_eq_zero_iff.1 h0
  refine ⟨0,?_⟩
  rw [e]
  refine bg (Z54.md [229]) (Z54.aq (a0:=[229]) ⟨by decide,fun _ _=>trivial⟩) ?_
  rw [if_pos h0]
 ·have e:((a0.length:Int)==0)=false:=beq_eq_false_iff_ne.2 (by omega)
  obtain ⟨n,hn,_⟩:=key a0.length a0 hg (by omega) (by omega)
  refine ⟨n+1,?_⟩
  rw [e,if_neg h0]
  exact hn
def af:cG 547 aW:=L1 18 pid cg bZ live step start mix aF bB (.cons Z54.af (.cons Z84.af .nil)) Tryz.func547
end Z85
namespace Z86
def F (x0 x1:Int):aK:=(call (Z54.R [[L.int 231],[L.int x0],[L.int x1]]) fun v1=>ret (v1:Int))
def md (a0 a1:Int):Int:=((Z54.md [231,a0,a1]):Int)
def gd (a0 a1:Int):Prop:=True
def R:=RR (p2 gd) (u2 md)
def aq {a0 a1}(h:gd a0 a1):R (a0,a1)=some (md a0 a1):=aR (a:=(a0,a1)) h
def aW:=CN [pI,pI] oI RT.dec R
def bB (a0)(a1)(hg:gd a0 a1):F a0 a1=ret (md a0 a1):=by
 unfold F md
 try simp only [SS]
 refine bg (Z54.md [231,a0,a1]) (rq (Z54.aq (a0:=[231,a0,a1]) ⟨(om),fun _ _=>trivial⟩)) ?_
 all_goals exact fz
def af:cG 471 aW:=W2 9 F mix aF bB (.cons Z54.af .nil) Tryz.func471
end Z86
namespace Z87
def F (x0:aD):aK:=(call (Z82.R x0) fun v1=>(call (Z85.R v1) fun v2=>(call (Z86.R ((x0.length:Int),v2)) fun v3=>ret (v3:Int))))
def md (a0:List ah):Int:=((Z86.md (a0.length:Int) (Z85.md (Z82.md a0))):Int)
def gd (a0:List ah):Prop:=(bO (2^21) (fun y:ah=>ah.Sm (2^21) y) a0)
def R:=RR gd md
def aq {a0}(h:gd a0):R (a0.map ah.row)=some (md a0):=aR (a:=a0) h
def aW:=CN [pL 61] oI RT.dec R
def bB (a0)(hg:gd a0):F (a0.map ah.row)=ret (md a0):=by
 unfold gd at hg
 have H0:=hg
 unfold F md
 try simp only [SS]
 refine ct (Z82.aq H0) ?_
 try simp only [SS]
 refine ct (Z85.aq ⟨(have:=Z82.len a0;have:=(H0).1;om),fun _ _=>trivial⟩) ?_
 refine ct (Z86.aq trivial) ?_
 all_goals exact fz
def af:cG 473 aW:=W1 9 F mix aF bB (.cons Z82.af (.cons Z85.af (.cons Z86.af .nil))) Tryz.func473
end Z87
namespace Z88
def F (x0:Int)(x1:aD):aK:=(call (Z77.R x1) fun v1=>(cond v1 (call (Z87.R x1) fun v2=>ret ((v2==x0):Bool)) bh))
def md (a0:Int)(a1:List ah):Bool:=(cond (Z77.md a1) (((Z87.md a1)==a0):Bool) (false:Bool))
def gd (a0:Int)(a1:List ah):Prop:=(bO (2^21) (fun y:ah=>ah.Sm (2^21) y) a1)
def R:=RR (p2 gd) (u2 md)
def aq {a0 a1}(h:gd a0 a1):R (a0,(a1.map ah.row))=some (md a0 a1):=aR (a:=(a0,a1)) h
def aW:=CN [pI,pL 61] oB RT.dec R
def bB (a0)(a1)(hg:gd a0 a1):F a0 (a1.map ah.row)=ret (md a0 a1):=by
 unfold gd at hg
 have H1:=hg
 unfold F md
 try simp only [SS]
 refine ct (Z77.aq H1) ?_
 refine ay ret (fun c1=>?_) (fun _=>rfl)
 refine ct (Z87.aq H1) ?_
 all_goals exact fz
def af:cG 460 aW:=W2 13 F mix aF bB (.cons Z77.af (.cons Z87.af .nil)) Tryz.func460
end Z88
namespace Z89
def F (x0:dS):aK:=(call (Z74.R x0.aU) fun v1=>(cond v1.2 (cond (v1.1.cz==(x0.bP.length:Int)) (call (Z88.R (v1.1.dm,x0.bP)) fun v2=>ret (v2:Bool)) bh) bh))
def md (a0:aN):Bool:=(cond ((Z74.md a0.aU).2) (cond ((Z74.md a0.aU).1.cz==(a0.bP.length:Int)) ((Z88.md ((Z74.md a0.aU).1.dm) a0.bP):Bool) (false:Bool)) (false:Bool))
def gd (a0:aN):Prop:=(aN.Sm (2^21) a0)
def R:=RR gd md
def aq {a0}(h:gd a0):R (aN.r a0)=some (md a0):=aR (a:=a0) h
def aW:=CN [.agg tA] oB RT.dec R
def bB (a0)(hg:gd a0):F (aN.r a0)=ret (md a0):=by
 unfold gd at hg
 have H0:=hg
 unfold F md
 try simp only [SS]
 refine ct (Z74.aq H0.1) ?_
 try simp only [SS]
 refine ay ret (fun c1=>?_) (fun _=>rfl)
 refine ay ret (fun c2=>?_) (fun _=>rfl)
 refine ct (Z88.aq H0.2) ?_
 all_goals exact fz
def af:cG 376 aW:=W1 27 F mix aF bB (.cons Z74.af (.cons Z88.af .nil)) Tryz.func376
end Z89
namespace Z90
def F (x0:dS):aK:=(call (Z74.R x0.aU) fun v1=>(call (Z89.R x0) fun v2=>(cond (!v2) (ret ((-1):Int)) (ret (v1.1.bz:Int)))))
def md (a0:aN):Int:=(cond (!(Z89.md a0)) ((-1):Int) ((Z74.md a0.aU).1.bz:Int))
def gd (a0:aN):Prop:=(aN.Sm (2^21) a0)
def R:=RR gd md
def aq {a0}(h:gd a0):R (aN.r a0)=some (md a0):=aR (a:=a0) h
def aW:=CN [.agg tA] oI RT.dec R
def bB (a0)(hg:gd a0):F (aN.r a0)=ret (md a0):=by
 unfold gd at hg
 have H0:=hg
 unfold F md
 try simp only [SS]
 refine ct (Z74.aq H0.1) ?_
 try simp only [SS]
 refine ct (Z89.aq H0) ?_
 refine ay ret (fun _=>rfl) (fun c1=>?_)
 all_goals exact fz
def af:cG 263 aW:=W1 16 F mix aF bB (.cons Z74.af (.cons Z89.af .nil)) Tryz.func263
end Z90
namespace Z91
inductive Pt where
 | p0 (a b:Int) (c:cR)
def pid:Pt->Nat
 | .p0 ..=>2
def cg:Pt->List V
 | .p0 a b c=>[.int .i64 a,.dy 0 0,.int .i64 b]
def bZ:Pt->List aZ
 | .p0 a b c=>[.box [.sl none 293 c.bK,.int .i64 c.gS]]
def step (J:Pt->aK):Pt->aK
 | .p0 a b c=>(cond (decide (b<(c.bK.length:Int))) (m2 b (c.bK.length:Int) (call (Z90.R (dS.at c.bK (toNat b))) fun v1=>(cond (v1==a) (cond (decide (a>=0)) (ret (b:Int)) (J (.p0 a (i64.wrap (b+1)) c))) (J (.p0 a (i64.wrap (b+1)) c))))) (ret ((-1):Int)))
def start (J:Pt->aK)(x0:cR)(x1:Int):aK:=J (.p0 x1 0 x0)
def live:Nat->Live:=fun i=>match i with | 2=>[(1,none),(2,none),(5,none)] | _=>[]
def md (a0:av)(a1:Int):Int:=(dJ (S:=Unit) (β:=Int) (fun (i1:Nat) (y1:aN) (s3:Unit)=>(cond ((Z90.md y1)==a1) (cond (decide (a1>=0)) (.inr ((i1:Int):Int)) (.inl ())) (.inl ()))) (fun (s3:Unit)=>((-1):Int)) 0 a0.bK ())
def gd (a0:av)(a1:Int):Prop:=(av.Sm (2^21) a0)
def R:=RR (p2 gd) (u2 md)
def aq {a0 a1}(h:gd a0 a1):R ((av.r a0),a1)=some (md a0 a1):=aR (a:=(a0,a1)) h
def aW:=CN [.agg ze,pI] oI RT.dec R
def bB (a0)(a1)(hg:gd a0 a1):∃n,start (iter step n) (av.r a0) a1=ret (md a0 a1):=by
 unfold gd at hg
 have H0:=hg
 unfold start md
 try simp only [SS]
 have Bh2:a0.bK.length<=maxLen:=(by
   have:=(H0).1
   try simp only [maxLen] at *
   omega)
 refine ex_eq (out:=ret) (dc (z:=aN.zero)) ?_
 refine dR (p:=Pt.p0 a1 0 (av.r a0)) fz ?_
 refine cu (pt:=fun (i1:Nat) (s3:Unit)=>Pt.p0 a1 (i1:Int) (av.r a0)) (s:=(():Unit)) (out:=ret) (fun _ _=>True) (fun J i1 s3 h2 hih2=>?_) (fun s3 hih2=>?_) trivial
 ·simp only [step,SS]
  have bb_:=Bh2
  simp only [maxLen] at bb_
  have:=(H0).1
  refine bD.yes (by apply decide_eq_true;omega) ?_
  refine bD.yes aJ ?_
  refine bD.yes (aL h2) ?_
  refine cr (Z90.aq (bO.getD (z:=aN.zero) H0 h2)) ?_
  refine bD.bif (fun c4=>?_) (fun c4=>?_)
  ·refine bD.bif (fun c5=>?_) (fun c5=>?_)
   ·refine bD.inr ?_
    all_goals exact fz
   ·refine bD.inl trivial ?_
    rw [aI h2 Bh2]
    all_goals exact fz
  ·refine bD.inl trivial ?_
   rw [aI h2 Bh2]
   all_goals exact fz
 ·simp only [step,SS]
  have:=(H0).1
  refine dF (by apply decide_eq_false;omega) ?_
  refine ⟨0,?_⟩
  all_goals exact fz
def af:cG 435 aW:=L2 26 pid cg bZ live step start mix aF bB (.cons Z90.af .nil) Tryz.func435
def fa (a0:av)(a1:Int):-1<=md a0 a1/\md a0 a1<(a0.bK.length:Int):=by
 unfold md
 refine gx ?_ _ _
 all_goals
  intro i x s b h
  revert h
  simp only [Bool.cond_eq_ite]
  repeat' split
  all_goals (intro h;first | (cases h;rfl) | cases h)
end Z91
namespace Z92
inductive Pt where
 | p0 (a:aD) (b:aE) (c:Int)
def pid:Pt->Nat
 | .p0 ..=>2
def cg:Pt->List V
 | .p0 a b c=>[.sl none 61 a,.str b,.int .i64 c]
def bZ:Pt->List aZ
 | .p0 a b c=>[]
def step (J:Pt->aK):Pt->aK
 | .p0 a b c=>(cond (decide (c<(a.length:Int))) (m2 c (a.length:Int) (cond ((bf.at a (toNat c)).bn==b) (ret (c:Int)) (J (.p0 a b (i64.wrap (c+1)))))) (ret ((-1):Int)))
def start (J:Pt->aK)(x0:aD)(x1:aE):aK:=J (.p0 x0 x1 0)
def live:Nat->Live:=fun i=>match i with | 2=>[(0,none),(1,none),(5,none)] | _=>[]
def md (a0:List ah)(a1:aE):Int:=(dJ (S:=Unit) (β:=Int) (fun (i1:Nat) (y1:ah) (s3:Unit)=>(cond (y1.bn==a1) (.inr ((i1:Int):Int)) (.inl ()))) (fun (s3:Unit)=>((-1):Int)) 0 a0 ())
def gd (a0:List ah)(a1:aE):Prop:=(bO (2^21) (fun y:ah=>ah.Sm (2^21) y) a0)
def R:=RR (p2 gd) (u2 md)
def aq {a0 a1}(h:gd a0 a1):R ((a0.map ah.row),a1)=some (md a0 a1):=aR (a:=(a0,a1)) h
def aW:=CN [pL 61,pS] oI RT.dec R
def bB (a0)(a1)(hg:gd a0 a1):∃n,start (iter step n) (a0.map ah.row) a1=ret (md a0 a1):=by
 unfold gd at hg
 have H0:=hg
 unfold start md
 try simp only [SS]
 have Bh2:a0.length<=maxLen:=(by
   have:=(H0).1
   try simp only [maxLen] at *
   omega)
 refine ex_eq (out:=ret) (dc (z:=ah.zero)) ?_
 refine dR (p:=Pt.p0 (a0.map ah.row) a1 0) fz ?_
 refine cu (pt:=fun (i1:Nat) (s3:Unit)=>Pt.p0 (a0.map ah.row) a1 (i1:Int)) (s:=(():Unit)) (out:=ret) (fun _ _=>True) (fun J i1 s3 h2 hih2=>?_) (fun s3 hih2=>?_) trivial
 ·simp only [step,SS]
  have bb_:=Bh2
  simp only [maxLen] at bb_
  have:=(H0).1
  refine bD.yes (by apply decide_eq_true;omega) ?_
  refine bD.yes aJ ?_
  refine bD.yes (aL h2) ?_
  refine bD.bif (fun c4=>?_) (fun c4=>?_)
  ·refine bD.inr ?_
   all_goals exact fz
  ·refine bD.inl trivial ?_
   rw [aI h2 Bh2]
   all_goals exact fz
 ·simp only [step,SS]
  have:=(H0).1
  refine dF (by apply decide_eq_false;omega) ?_
  refine ⟨0,?_⟩
  all_goals exact fz
def af:cG 377 aW:=L2 20 pid cg bZ live step start mix aF bB .nil Tryz.func377
def fa (a0:List ah)(a1:aE):-1<=md a0 a1/\md a0 a1<(a0.length:Int):=by
 unfold md
 refine gx ?_ _ _
 all_goals
  intro i x s b h
  revert h
  simp only [Bool.cond_eq_ite]
  repeat' split
  all_goals (intro h;first | (cases h;rfl) | cases h)
end Z92
namespace Z93
def F (x0:bf):aK:=(call (Z48.R x0.bH) fun v1=>ret ((⟨x0.bn,x0.bM,x0.cq,v1⟩:bf):bf))
def md (a0:ah):ah:=a0
def gd (a0:ah):Prop:=(ah.Sm (2^21) a0)
def R:=RR gd md
def aq {a0}(h:gd a0):R (ah.r a0)=some (ah.r a0):=aR (a:=a0) h
def aW:=CN [.agg sn] (.agg f61) RT.dec R
def bB (a0)(hg:gd a0):F (ah.r a0)=ret (ah.r (md a0)):=by
 unfold gd at hg
 have H0:=hg
 unfold F md
 try simp only [SS]
 refine ct (Z48.aq H0.2) ?_
 try simp only [SS]
 all_goals exact fz
def af:cG 286 aW:=W1 13 F mix aF bB (.cons Z48.af .nil) Tryz.func286
end Z93
namespace Z94
inductive Pt where
 | p0 (a:Int) (b c:aD)
 | p1 (a:Int) (b c:aD)
def pid:Pt->Nat
 | .p0 ..=>5
 | .p1 ..=>5
def cg:Pt->List V
 | .p0 a b c=>[.int .i64 a,.own 0,.sl none 3 b]
 | .p1 a b c=>[.int .i64 a,.own 0,.own 1]
def bZ:Pt->List aZ
 | .p0 a b c=>[.row 3 c]
 | .p1 a b c=>[.row 3 b,.row 3 c]
def step (J:Pt->aK):Pt->aK
 | .p0 a b c=>(cond (decide ((b.length:Int)>1)) (cond (decide ((i64.wrap ((i64.wrap (a+1)) - (i64.wrap (2*(Int.tmod a 2)))))<(b.length:Int))) (cm (decide ((0:Int)<=(i64.wrap ((i64.wrap (a+1)) - (i64.wrap (2*(Int.tmod a 2))))))) (cm (decide ((i64.wrap ((i64.wrap (a+1)) - (i64.wrap (2*(Int.tmod a 2)))))<(b.length:Int))) (cm (ff (((c.length:Int)+1)*8)) (call (Z84.R b) fun v1=>J (.p1 (i64.wrap (Int.tdiv a 2)) (c++[[L.int (jG b (toNat (i64.wrap ((i64.wrap (a+1)) - (i64.wrap (2*(Int.tmod a 2)))))))]]) v1))))) (call (Z84.R b) fun v2=>J (.p1 (i64.wrap (Int.tdiv a 2)) c v2))) (ret (c:aD)))
 | .p1 a b c=>(cond (decide ((c.length:Int)>1)) (cond (decide ((i64.wrap ((i64.wrap (a+1)) - (i64.wrap (2*(Int.tmod a 2)))))<(c.length:Int))) (cm (decide ((0:Int)<=(i64.wrap ((i64.wrap (a+1)) - (i64.wrap (2*(Int.tmod a 2))))))) (cm (decide ((i64.wrap ((i64.wrap (a+1)) - (i64.wrap (2*(Int.tmod a 2)))))<(c.length:Int))) (cm (ff (((b.length:Int)+1)*8)) (call (Z84.R c) fun v1=>J (.p1 (i64.wrap (Int.tdiv a 2)) (b++[[L.int (jG c (toNat (i64.wrap ((i64.wrap (a+1)) - (i64.wrap (2*(Int.tmod a 2)))))))]]) v1))))) (call (Z84.R c) fun v2=>J (.p1 (i64.wrap (Int.tdiv a 2)) b v2))) (ret (b:aD)))
def start (J:Pt->aK)(x0:aD)(x1:Int):aK:=(call (Z45.R (x1,0,(i64.wrap ((x0.length:Int) - 1)))) fun v1=>(cond (!v1) (ret ([]:aD)) (J (.p0 x1 x0 []))))
def live:Nat->Live:=fun i=>match i with | 5=>[(1,none),(5,some 3),(6,none)] | _=>[]
def vA (i:Nat):Nat:=if i % 2=0 then i+1 else i - 1
def vB (i:Nat)(l c:List Int):List Int:=if vA i<l.length then c++[l.getD (vA i) 0] else c
def zg:Nat->Nat->List Int->List Int->List Int
 | 0,_,_,c=>c
 | k+1,i,l,c=>if l.length>1 then zg k (i / 2) (Z84.up l) (vB i l c) else c
def tF:∀(k i:Nat) (l c:List Int),(zg k i l c).length<=c.length+k
 | 0,_,_,c=>Nat.le_refl _
 | k+1,i,l,c=>by
  unfold zg
  by_cases h:l.length>1
  ·rw [if_pos h]
   have:=tF k (i / 2) (Z84.up l) (vB i l c)
   have h2:(vB i l c).length<=c.length+1:=by unfold vB;split<;>simp
   omega
  ·rw [if_neg h];omega
def half (i:Nat)(h:i<2^40):i64.wrap (Int.tdiv (i:Int) 2)=((i / 2:Nat):Int):=by
 rw [show Int.tdiv (i:Int) 2=((i / 2:Nat):Int) from rfl,wi _ (by omega)]
def AZ (i:Nat)(h:i<2^40):i64.wrap (i64.wrap ((i:Int)+1) - i64.wrap (2*Int.tmod (i:Int) 2))=((vA i:Nat):Int):=by
 rw [show Int.tmod (i:Int) 2=((i % 2:Nat):Int) from rfl,wi ((i:Int)+1) (by omega),wi (2*((i % 2:Nat):Int)) (by omega),wi _ (by omega)]
 unfold vA
 split<;>omega
def md (a0:List Int)(a1:Int):List Int:=bif Z45.md a1 0 (i64.wrap ((a0.length:Int) - 1)) then zg a0.length a1.toNat a0 [] else []
def gd (a0:List Int)(a1:Int):Prop:=bO (2^38) (fun y:Int=>True) a0
def R:=RR (p2 gd) (u2 md)
def aq {a0 a1}(h:gd a0 a1):R ((a0.map bu),a1)=some ((md a0 a1).map bu):=aR (a:=(a0,a1)) h
def aW:=CN [pL 3,pI] (oL 3) RT.dec R
def bB (a0)(a1)(hg:gd a0 a1):∃n,start (iter step n) (a0.map bu) a1=ret ((md a0 a1).map bu):=by
 have one:∀(i:Nat) (l c r:List Int) (n:Nat),bO (2^38) (fun y:Int=>True) l->i<2^40->c.length<2^40->(if l.length>1 then iter step n (Pt.p1 ((i / 2:Nat):Int) ((vB i l c).map bu) ((Z84.up l).map bu))=ret (r.map bu) else c=r)->
   step (iter step n) (Pt.p0 (i:Int) (l.map bu) (c.map bu))=ret (r.map bu)/\step (iter step n) (Pt.p1 (i:Int) (c.map bu) (l.map bu))=ret (r.map bu):=by
  intro i l c r n hl hi hc h
  have hs:=AZ i hi
  have hd:=half i hi
  refine ⟨?_,?_⟩
  all_goals
   simp only [step,MM,List.length_map,gU,hs,hd,cB]
   by_cases h1:l.length>1
   ·rw [if_pos h1] at h
    rw [decide_eq_true (show (l.length:Int)>1 by omega),bq]
    by_cases h2:vA i<l.length
    ·rw [vB,if_pos h2,List.map_append] at h
     rw [decide_eq_true (show ((vA i:Nat):Int)<(l.length:Int) by omega),bq,decide_eq_true (show (0:Int)<=((vA i:Nat):Int) by omega),bq,bq,je (by omega),bq]
     exact bg ((Z84.up l).map bu) (Z84.aq hl) h
    ·rw [vB,if_neg h2] at h
     rw [decide_eq_false (show ¬((vA i:Nat):Int)<(l.length:Int) by omega),bA]
     exact bg ((Z84.up l).map bu) (Z84.aq hl) h
   ·rw [if_neg h1] at h
    rw [decide_eq_false (show ¬(l.length:Int)>1 by omega),bA,h]
 have key:∀(k i:Nat) (l c:List Int),bO (2^38) (fun y:Int=>True) l->l.length<=k->i<2^40->c.length+k<2^40->
   ∃n,step (iter step n) (Pt.p0 (i:Int) (l.map bu) (c.map bu))=ret ((zg k i l c).map bu)/\step (iter step n) (Pt.p1 (i:Int) (c.map bu) (l.map bu))=ret ((zg k i l c).map bu):=by
  intro k
  induction k with
  | zero=>intro i l c hl hk hi hc;exact ⟨0,one i l c _ 0 hl hi (by omega) (by rw [if_neg (by omega)];rfl)⟩
  | succ k ih=>
   intro i l c hl hk hi hc
   unfold zg
   by_cases h1:l.length>1
   ·have hu:=Z84.ku l
    have hl1:=hl.1
    have h2:(vB i l c).length<=c.length+1:=by unfold vB;split<;>simp
    obtain ⟨n,_,hn⟩:=ih (i / 2) (Z84.up l) (vB i l c) ⟨by omega,fun _ _=>trivial⟩ (by omega) (by omega) (by omega)
    rw [if_pos h1]
    exact ⟨n+1,one i l c _ (n+1) hl hi (by omega) (by rw [if_pos h1];exact hn)⟩
   ·rw [if_neg h1]
    exact ⟨0,one i l c _ 0 hl hi (by omega) (by rw [if_neg h1])⟩
 unfold gd at hg
 unfold start md
 simp only [List.length_map]
 have hlen:=hg.1
 cases h:Z45.md a1 0 (i64.wrap ((a0.length:Int) - 1))
 ·exact ⟨0,bg false (by rw [<-h];exact Z45.aq trivial) rfl⟩
 ·have hh:=h
  rw [wi _ (by omega)] at hh
  simp [Z45.md] at hh
  obtain ⟨i,rfl⟩:=Int.eq_ofNat_of_zero_le hh.1
  obtain ⟨n,hn,_⟩:=key a0.length i a0 [] hg (Nat.le_refl _) (by omega) (by simp only [List.length_nil];omega)
  exact ⟨n+1,bg true (by rw [<-h];exact Z45.aq trivial) hn⟩
def af:cG 461 aW:=L2 42 pid cg bZ live step start mix aF bB (.cons Z45.af (.cons Z84.af .nil)) Tryz.func461
def len (a0:List Int)(a1:Int):(md a0 a1).length<=a0.length:=by
 unfold md
 cases Z45.md _ 0 _
 ·exact zero_le _
 ·exact le_trans (tF _ _ _ _) (by simp)
end Z94
namespace Z95
def F (x0:aD)(x1:aE):aK:=(call (Z92.R (x0,x1)) fun v1=>(cond (decide (v1<0)) (ret (((⟨0,[]⟩:bT),false):bT×Bool)) (call (Z82.R x0) fun v2=>(call (Z94.R (v2,v1)) fun v3=>ret (((⟨v1,v3⟩:bT),true):bT×Bool)))))
def md (a0:List ah)(a1:aE):aP×Bool:=(cond (decide ((Z92.md a0 a1)<0)) ((⟨0,[]⟩:aP),false) ((⟨(Z92.md a0 a1),(Z94.md (Z82.md a0) (Z92.md a0 a1))⟩:aP),true))
def gd (a0:List ah)(a1:aE):Prop:=(bO (2^21) (fun y:ah=>ah.Sm (2^21) y) a0)
def R:=RR (p2 gd) (u2 md)
def aq {a0 a1}(h:gd a0 a1):R ((a0.map ah.row),a1)=some ((aP.r (md a0 a1).1),(md a0 a1).2):=aR (a:=(a0,a1)) h
def aW:=CN [pL 61,pS] (.iW [(true,f128),(false,[fB])]) RT.dec R
def bB (a0)(a1)(hg:gd a0 a1):F (a0.map ah.row) a1=ret ((aP.r (md a0 a1).1),(md a0 a1).2):=by
 unfold gd at hg
 have H0:=hg
 unfold F md
 try simp only [SS]
 refine ct (Z92.aq H0) ?_
 have fv1_:=Z92.fa a0 a1
 refine ay (fun b:aP×Bool=>ret (((aP.r b.1),b.2):bT×Bool)) (fun c1=>?_) (fun c1=>?_)
 ·all_goals exact fz
 ·have dc1:=c1
  try simp only [DC] at dc1
  refine ct (Z82.aq H0) ?_
  try simp only [SS]
  refine ct (Z94.aq ⟨(have:=Z82.len a0;have:=(H0).1;om),fun _ _=>trivial⟩) ?_
  try simp only [SS]
  all_goals exact fz
def af:cG 378 aW:=W2 19 F mix aF bB (.cons Z92.af (.cons Z82.af (.cons Z94.af .nil))) Tryz.func378
def fW {a0:List ah}{a1:aE}(hg:gd a0 a1):aP.Sm (2^21) ((md a0 a1).1):=by
 unfold gd at hg;unfold md
 cases decide (Z92.md a0 a1<0)
 ·refine ⟨?_,fun _ _=>trivial⟩
  have h:=Z94.len (Z82.md a0) (Z92.md a0 a1)
  rw [Z82.len] at h
  exact le_trans h hg.1
 ·exact bO.nil
def sz (a0:List ah)(a1:aE):aP.size (md a0 a1).1<=a0.length:=by
 unfold aP.size md
 rw [qF]
 cases decide (Z92.md a0 a1<0)
 ·have:=Z94.len (Z82.md a0) (Z92.md a0 a1)
  rw [Z82.len] at this
  exact this
 ·exact zero_le _
end Z95
namespace Z96
inductive Pt where
 | p0 (a:aD) (b:aE) (c d:Int)
def pid:Pt->Nat
 | .p0 ..=>3
def cg:Pt->List V
 | .p0 a b c d=>[.sl none 61 a,.str b,.int .i64 c,.int .i64 d]
def bZ:Pt->List aZ
 | .p0 a b c d=>[]
def step (J:Pt->aK):Pt->aK
 | .p0 a b c d=>(cond (decide (d<(a.length:Int))) (m2 d (a.length:Int) (call (Z76.R ((bf.at a (toNat d)).bn,b)) fun v1=>(cond (decide (v1<0)) (J (.p0 a b (i64.wrap (c+1)) (i64.wrap (d+1)))) (J (.p0 a b c (i64.wrap (d+1))))))) (ret (c:Int)))
def start (J:Pt->aK)(x0:aD)(x1:aE):aK:=J (.p0 x0 x1 0 0)
def live:Nat->Live:=fun i=>match i with | 3=>[(0,none),(1,none),(5,none),(6,none)] | _=>[]
def md (a0:List ah)(a1:aE):Int:=(dW (S:=Int) (β:=Int) (fun (y1:ah) (s3:Int)=>(cond (decide ((Z76.md (y1.bn) a1)<0)) (.inl (i64.wrap (s3+1))) (.inl s3))) (fun (s3:Int)=>(s3:Int)) a0 0)
def gd (a0:List ah)(a1:aE):Prop:=(bO (2^21) (fun y:ah=>ah.Sm (2^21) y) a0)
def R:=RR (p2 gd) (u2 md)
def aq {a0 a1}(h:gd a0 a1):R ((a0.map ah.row),a1)=some (md a0 a1):=aR (a:=(a0,a1)) h
def aW:=CN [pL 61,pS] oI RT.dec R
def bB (a0)(a1)(hg:gd a0 a1):∃n,start (iter step n) (a0.map ah.row) a1=ret (md a0 a1):=by
 unfold gd at hg
 have H0:=hg
 unfold start md
 try simp only [SS]
 have Bh2:a0.length<=maxLen:=(by
   have:=(H0).1
   try simp only [maxLen] at *
   omega)
 refine ex_eq (out:=ret) (eJ (z:=ah.zero)) ?_
 refine dR (p:=Pt.p0 (a0.map ah.row) a1 0 0) fz ?_
 refine cu (pt:=fun (i1:Nat) (s3:Int)=>Pt.p0 (a0.map ah.row) a1 s3 (i1:Int)) (s:=(0:Int)) (out:=ret) (fun _ _=>True) (fun J i1 s3 h2 hih2=>?_) (fun s3 hih2=>?_) trivial
 ·simp only [step,SS]
  have bb_:=Bh2
  simp only [maxLen] at bb_
  have:=(H0).1
  refine bD.yes (by apply decide_eq_true;omega) ?_
  refine bD.yes aJ ?_
  refine bD.yes (aL h2) ?_
  refine cr (Z76.aq trivial) ?_
  refine bD.bif (fun c4=>?_) (fun c4=>?_)
  ·refine bD.inl trivial ?_
   rw [aI h2 Bh2]
   all_goals exact fz
  ·refine bD.inl trivial ?_
   rw [aI h2 Bh2]
   all_goals exact fz
 ·simp only [step,SS]
  have:=(H0).1
  refine dF (by apply decide_eq_false;omega) ?_
  refine ⟨0,?_⟩
  all_goals exact fz
def af:cG 464 aW:=L2 24 pid cg bZ live step start mix aF bB (.cons Z76.af .nil) Tryz.func464
def fa (a0:List ah)(a1:aE):a0.length<=2^21->0<=md a0 a1/\md a0 a1<=(a0.length:Int):=fun hl=>by
 have key:∀(xs:List ah) (s:Int),0<=s->s+xs.length<=2^22->0<=dW (S:=Int) (β:=Int) (fun (y1:ah) (s3:Int)=>(cond (decide ((Z76.md (y1.bn) a1)<0)) (.inl (i64.wrap (s3+1))) (.inl s3))) (fun (s3:Int)=>(s3:Int)) xs s/\dW (S:=Int) (β:=Int) (fun (y1:ah) (s3:Int)=>(cond (decide ((Z76.md (y1.bn) a1)<0)) (.inl (i64.wrap (s3+1))) (.inl s3))) (fun (s3:Int)=>(s3:Int)) xs s<=s+xs.length:=by
  intro xs
  induction xs with
  | nil=>intro s h0 h1;exact ⟨h0,by simp [dW]⟩
  | cons x xs ih=>
   intro s h0 h1
   simp only [List.length_cons] at h1 ⊢
   unfold dW
   cases decide (Z76.md x.bn a1<0)
   ·have:=ih s h0 (by omega)
    simp only [bA]
    omega
   ·have:=ih (s+1) (by omega) (by omega)
    simp only [bq]
    rw [wi _ (by omega)]
    omega
 have:=key a0 0 (Int.le_refl _) (by omega)
 unfold md
 omega
end Z96
namespace Z97
def F (x0:aD)(x1:aE):aK:=(call (Z77.R x0) fun v1=>(cond (!v1) (ret (((⟨0,(⟨(⟨#[]⟩:aE),0,0,[]⟩:bf),(⟨(⟨#[]⟩:aE),0,0,[]⟩:bf),(⟨0,[]⟩:bT),(⟨0,[]⟩:bT)⟩:dV),false):dV×Bool)) (call (Z46.R x1) fun v2=>(cond (!v2) (ret (((⟨0,(⟨(⟨#[]⟩:aE),0,0,[]⟩:bf),(⟨(⟨#[]⟩:aE),0,0,[]⟩:bf),(⟨0,[]⟩:bT),(⟨0,[]⟩:bT)⟩:dV),false):dV×Bool)) (call (Z92.R (x0,x1)) fun v3=>(cond (decide (v3>=0)) (ret (((⟨0,(⟨(⟨#[]⟩:aE),0,0,[]⟩:bf),(⟨(⟨#[]⟩:aE),0,0,[]⟩:bf),(⟨0,[]⟩:bT),(⟨0,[]⟩:bT)⟩:dV),false):dV×Bool)) (call (Z96.R (x0,x1)) fun v4=>(cond (decide (v4>0)) (cm (decide ((0:Int)<=(i64.wrap (v4 - 1)))) (cm (decide ((i64.wrap (v4 - 1))<(x0.length:Int))) (call (Z93.R (bf.at x0 (toNat (i64.wrap (v4 - 1))))) fun v5=>(cm (decide ((0:Int)<=(i64.wrap (v4 - 1)))) (cm (decide ((i64.wrap (v4 - 1))<(x0.length:Int))) (call (Z95.R (x0,(bf.at x0 (toNat (i64.wrap (v4 - 1)))).bn)) fun v6=>(cond (decide (v4<(x0.length:Int))) (m2 v4 (x0.length:Int) (call (Z93.R (bf.at x0 (toNat v4))) fun v7=>(m2 v4 (x0.length:Int) (call (Z95.R (x0,(bf.at x0 (toNat v4)).bn)) fun v8=>ret (((⟨v4,v5,v7,v6.1,v8.1⟩:dV),true):dV×Bool))))) (ret (((⟨v4,v5,(⟨(⟨#[]⟩:aE),0,0,[]⟩:bf),v6.1,(⟨0,[]⟩:bT)⟩:dV),true):dV×Bool))))))))) (cond (decide (v4<(x0.length:Int))) (m2 v4 (x0.length:Int) (call (Z93.R (bf.at x0 (toNat v4))) fun v9=>(m2 v4 (x0.length:Int) (call (Z95.R (x0,(bf.at x0 (toNat v4)).bn)) fun v10=>ret (((⟨v4,(⟨(⟨#[]⟩:aE),0,0,[]⟩:bf),v9,(⟨0,[]⟩:bT),v10.1⟩:dV),true):dV×Bool))))) (ret (((⟨v4,(⟨(⟨#[]⟩:aE),0,0,[]⟩:bf),(⟨(⟨#[]⟩:aE),0,0,[]⟩:bf),(⟨0,[]⟩:bT),(⟨0,[]⟩:bT)⟩:dV),true):dV×Bool)))))))))))
def md (a0:List ah)(a1:aE):bW×Bool:=(cond (!(Z77.md a0)) ((⟨0,(⟨((⟨#[]⟩:aE):aE),0,0,[]⟩:ah),(⟨((⟨#[]⟩:aE):aE),0,0,[]⟩:ah),(⟨0,[]⟩:aP),(⟨0,[]⟩:aP)⟩:bW),false) (cond (!(Z46.md a1)) ((⟨0,(⟨((⟨#[]⟩:aE):aE),0,0,[]⟩:ah),(⟨((⟨#[]⟩:aE):aE),0,0,[]⟩:ah),(⟨0,[]⟩:aP),(⟨0,[]⟩:aP)⟩:bW),false) (cond (decide ((Z92.md a0 a1)>=0)) ((⟨0,(⟨((⟨#[]⟩:aE):aE),0,0,[]⟩:ah),(⟨((⟨#[]⟩:aE):aE),0,0,[]⟩:ah),(⟨0,[]⟩:aP),(⟨0,[]⟩:aP)⟩:bW),false) (cond (decide ((Z96.md a0 a1)>0)) (cond (decide ((Z96.md a0 a1)<(a0.length:Int))) ((⟨(Z96.md a0 a1),(a0.getD (toNat (i64.wrap ((Z96.md a0 a1) - 1))) ah.zero),(a0.getD (toNat (Z96.md a0 a1)) ah.zero),(Z95.md a0 ((a0.getD (toNat (i64.wrap ((Z96.md a0 a1) - 1))) ah.zero).bn)).1,(Z95.md a0 ((a0.getD (toNat (Z96.md a0 a1)) ah.zero).bn)).1⟩:bW),true) ((⟨(Z96.md a0 a1),(a0.getD (toNat (i64.wrap ((Z96.md a0 a1) - 1))) ah.zero),(⟨((⟨#[]⟩:aE):aE),0,0,[]⟩:ah),(Z95.md a0 ((a0.getD (toNat (i64.wrap ((Z96.md a0 a1) - 1))) ah.zero).bn)).1,(⟨0,[]⟩:aP)⟩:bW),true)) (cond (decide ((Z96.md a0 a1)<(a0.length:Int))) ((⟨(Z96.md a0 a1),(⟨((⟨#[]⟩:aE):aE),0,0,[]⟩:ah),(a0.getD (toNat (Z96.md a0 a1)) ah.zero),(⟨0,[]⟩:aP),(Z95.md a0 ((a0.getD (toNat (Z96.md a0 a1)) ah.zero).bn)).1⟩:bW),true) ((⟨(Z96.md a0 a1),(⟨((⟨#[]⟩:aE):aE),0,0,[]⟩:ah),(⟨((⟨#[]⟩:aE):aE),0,0,[]⟩:ah),(⟨0,[]⟩:aP),(⟨0,[]⟩:aP)⟩:bW),true))))))
def gd (a0:List ah)(a1:aE):Prop:=(bO (2^21) (fun y:ah=>ah.Sm (2^21) y) a0)/\(a1.size<=(2^21))
def R:=RR (p2 gd) (u2 md)
def aq {a0 a1}(h:gd a0 a1):R ((a0.map ah.row),a1)=some ((bW.r (md a0 a1).1),(md a0 a1).2):=aR (a:=(a0,a1)) h
def aW:=CN [pL 61,pS] (.iW [(true,f130),(false,[fB])]) RT.dec R
def bB (a0)(a1)(hg:gd a0 a1):F (a0.map ah.row) a1=ret ((bW.r (md a0 a1).1),(md a0 a1).2):=by
 obtain ⟨H0,H1⟩:=hg
 unfold F md
 try simp only [SS]
 refine ct (Z77.aq H0) ?_
 refine ay (fun b:bW×Bool=>ret (((bW.r b.1),b.2):dV×Bool)) (fun c1=>?_) (fun c1=>?_)
 ·all_goals exact fz
 ·have dc1:=c1
  try simp only [DC] at dc1
  refine ct (Z46.aq (le_trans H1 (by decide))) ?_
  refine ay (fun b:bW×Bool=>ret (((bW.r b.1),b.2):dV×Bool)) (fun c2=>?_) (fun c2=>?_)
  ·all_goals exact fz
  ·have dc2:=c2
   try simp only [DC] at dc2
   try have tc2:=Z46.tr (by simpa using c2)
   refine ct (Z92.aq H0) ?_
   have fv3_:=Z92.fa a0 a1
   refine ay (fun b:bW×Bool=>ret (((bW.r b.1),b.2):dV×Bool)) (fun c3=>?_) (fun c3=>?_)
   ·all_goals exact fz
   ·have dc3:=c3
    try simp only [DC] at dc3
    refine ct (Z96.aq H0) ?_
    have fv4_:=Z96.fa a0 a1
    refine ay (fun b:bW×Bool=>ret (((bW.r b.1),b.2):dV×Bool)) (fun c4=>?_) (fun c4=>?_)
    ·have dc4:=c4
     try simp only [DC] at dc4
     refine ak (have:=(H0).1;dt) ?_
     refine ak (have:=(H0).1;have:=(H0).1;dt) ?_
     refine ct (Z93.aq (bO.getD (z:=ah.zero) H0 (by have:=(H0).1;first | assumption | omega | (simp (disch:=omega) only [wi];omega) | (simp;omega)))) ?_
     try simp only [SS]
     refine ak (have:=(H0).1;dt) ?_
     refine ak (have:=(H0).1;have:=(H0).1;dt) ?_
     refine ct (Z95.aq H0) ?_
     try simp only [SS]
     refine ay (fun b:bW×Bool=>ret (((bW.r b.1),b.2):dV×Bool)) (fun c5=>?_) (fun c5=>?_)
     ·have dc5:=c5
      try simp only [DC] at dc5
      refine ak (have:=(H0).1;dt) ?_
      refine ak (have:=(H0).1;have:=(H0).1;dt) ?_
      refine ct (Z93.aq (bO.getD (z:=ah.zero) H0 (by have:=(H0).1;first | assumption | omega | (simp (disch:=omega) only [wi];omega) | (simp;omega)))) ?_
      try simp only [SS]
      refine ak (have:=(H0).1;dt) ?_
      refine ak (have:=(H0).1;have:=(H0).1;dt) ?_
      refine ct (Z95.aq H0) ?_
      try simp only [SS]
      all_goals exact fz
     ·all_goals exact fz
    ·have dc4:=c4
     try simp only [DC] at dc4
     refine ay (fun b:bW×Bool=>ret (((bW.r b.1),b.2):dV×Bool)) (fun c6=>?_) (fun c6=>?_)
     ·have dc6:=c6
      try simp only [DC] at dc6
      refine ak (have:=(H0).1;dt) ?_
      refine ak (have:=(H0).1;have:=(H0).1;dt) ?_
      refine ct (Z93.aq (bO.getD (z:=ah.zero) H0 (by have:=(H0).1;first | assumption | omega | (simp (disch:=omega) only [wi];omega) | (simp;omega)))) ?_
      try simp only [SS]
      refine ak (have:=(H0).1;dt) ?_
      refine ak (have:=(H0).1;have:=(H0).1;dt) ?_
      refine ct (Z95.aq H0) ?_
      try simp only [SS]
      all_goals exact fz
     ·all_goals exact fz
def af:cG 379 aW:=W2 71 F mix aF bB (.cons Z77.af (.cons Z46.af (.cons Z92.af (.cons Z96.af (.cons Z93.af (.cons Z95.af .nil)))))) Tryz.func379
def fW {a0:List ah}{a1:aE}(hg:gd a0 a1):bW.Sm (2^21) ((md a0 a1).1):=by
 unfold gd at hg;unfold md
 have ez:ah.Sm (2^21) ⟨⟨#[]⟩,0,0,[]⟩:=⟨zero_le _,bO.nil⟩
 have pz:aP.Sm (2^21) ⟨0,[]⟩:=bO.nil
 have he:∀i,ah.Sm (2^21) (a0.getD i ah.zero):=fun i=>bO.wg hg.1 ez
 have hp:∀x,aP.Sm (2^21) (Z95.md a0 x).1:=fun x=>Z95.fW hg.1
 simp only [Bool.cond_eq_ite]
 repeat' split
 all_goals (refine ⟨?_,?_,?_,?_⟩<;>first | exact he _ | exact hp _ | exact ez | exact pz)
def sz (a0:List ah)(a1:aE):bW.size (md a0 a1).1<=4*dP (fun y:ah=>ah.size y) a0:=by
 have hl:a0.length<=dP (fun y:ah=>ah.size y) a0:=Nat.le_add_right _ _
 have he:∀i,ah.size (a0.getD i ah.zero)<=dP (fun y:ah=>ah.size y) a0:=fun i=>nB (f:=fun y:ah=>ah.size y) (z:=ah.zero) rfl
 have hp:∀x,aP.size (Z95.md a0 x).1<=a0.length:=fun x=>Z95.sz a0 x
 have hd:∀(n:Int) (b a:ah) (l r:aP),bW.size ⟨n,b,a,l,r⟩=ah.size b+ah.size a+aP.size l+aP.size r:=fun _ _ _ _ _=>rfl
 have e0:ah.size ⟨⟨#[]⟩,0,0,[]⟩=0:=rfl
 have p0:aP.size ⟨0,[]⟩=0:=rfl
 have h1:=he (toNat (i64.wrap ((Z96.md a0 a1) - 1)))
 have h2:=he (toNat (Z96.md a0 a1))
 have h3:=hp ((a0.getD (toNat (i64.wrap ((Z96.md a0 a1) - 1))) ah.zero).bn)
 have h4:=hp ((a0.getD (toNat (Z96.md a0 a1)) ah.zero).bn)
 unfold md
 simp only [Bool.cond_eq_ite]
 repeat' split
 all_goals simp only [hd,e0,p0]
 all_goals omega
end Z97
namespace Z98
def F (x0:dS)(x1:aE):aK:=(call (Z89.R x0) fun v1=>(cond (!v1) (ret ((⟨[],false,(⟨(⟨#[]⟩:aE),0,0,[]⟩:bf),(⟨0,[]⟩:bT),(⟨0,(⟨(⟨#[]⟩:aE),0,0,[]⟩:bf),(⟨(⟨#[]⟩:aE),0,0,[]⟩:bf),(⟨0,[]⟩:bT),(⟨0,[]⟩:bT)⟩:dV)⟩:bp):bp)) (call (Z46.R x1) fun v2=>(cond (!v2) (ret ((⟨[],false,(⟨(⟨#[]⟩:aE),0,0,[]⟩:bf),(⟨0,[]⟩:bT),(⟨0,(⟨(⟨#[]⟩:aE),0,0,[]⟩:bf),(⟨(⟨#[]⟩:aE),0,0,[]⟩:bf),(⟨0,[]⟩:bT),(⟨0,[]⟩:bT)⟩:dV)⟩:bp):bp)) (call (Z42.R x0.aU) fun v3=>(call (Z92.R (x0.bP,x1)) fun v4=>(cond (decide (v4>=0)) (m2 v4 (x0.bP.length:Int) (call (Z93.R (bf.at x0.bP (toNat v4))) fun v5=>(call (Z95.R (x0.bP,x1)) fun v6=>ret ((⟨v3,true,v5,v6.1,(⟨0,(⟨(⟨#[]⟩:aE),0,0,[]⟩:bf),(⟨(⟨#[]⟩:aE),0,0,[]⟩:bf),(⟨0,[]⟩:bT),(⟨0,[]⟩:bT)⟩:dV)⟩:bp):bp)))) (call (Z97.R (x0.bP,x1)) fun v7=>ret ((⟨v3,false,(⟨(⟨#[]⟩:aE),0,0,[]⟩:bf),(⟨0,[]⟩:bT),v7.1⟩:bp):bp)))))))))
def md (a0:aN)(a1:aE):az:=(cond (!(Z89.md a0)) (⟨[],false,(⟨((⟨#[]⟩:aE):aE),0,0,[]⟩:ah),(⟨0,[]⟩:aP),(⟨0,(⟨((⟨#[]⟩:aE):aE),0,0,[]⟩:ah),(⟨((⟨#[]⟩:aE):aE),0,0,[]⟩:ah),(⟨0,[]⟩:aP),(⟨0,[]⟩:aP)⟩:bW)⟩:az) (cond (!(Z46.md a1)) (⟨[],false,(⟨((⟨#[]⟩:aE):aE),0,0,[]⟩:ah),(⟨0,[]⟩:aP),(⟨0,(⟨((⟨#[]⟩:aE):aE),0,0,[]⟩:ah),(⟨((⟨#[]⟩:aE):aE),0,0,[]⟩:ah),(⟨0,[]⟩:aP),(⟨0,[]⟩:aP)⟩:bW)⟩:az) (cond (decide ((Z92.md a0.bP a1)>=0)) (⟨a0.aU,true,(a0.bP.getD (toNat (Z92.md a0.bP a1)) ah.zero),(Z95.md a0.bP a1).1,(⟨0,(⟨((⟨#[]⟩:aE):aE),0,0,[]⟩:ah),(⟨((⟨#[]⟩:aE):aE),0,0,[]⟩:ah),(⟨0,[]⟩:aP),(⟨0,[]⟩:aP)⟩:bW)⟩:az) (⟨a0.aU,false,(⟨((⟨#[]⟩:aE):aE),0,0,[]⟩:ah),(⟨0,[]⟩:aP),(Z97.md a0.bP a1).1⟩:az))))
def gd (a0:aN)(a1:aE):Prop:=(aN.Sm (2^21) a0)/\(a1.size<=(2^21))
def R:=RR (p2 gd) (u2 md)
def aq {a0 a1}(h:gd a0 a1):R ((aN.r a0),a1)=some (az.r (md a0 a1)):=aR (a:=(a0,a1)) h
def aW:=CN [.agg tA,pS] (.agg f132) RT.dec R
def bB (a0)(a1)(hg:gd a0 a1):F (aN.r a0) a1=ret (az.r (md a0 a1)):=by
 obtain ⟨H0,H1⟩:=hg
 unfold F md
 try simp only [SS]
 refine ct (Z89.aq H0) ?_
 refine ay (fun b:az=>ret ((az.r b):bp)) (fun c1=>?_) (fun c1=>?_)
 ·all_goals exact fz
 ·have dc1:=c1
  try simp only [DC] at dc1
  refine ct (Z46.aq (le_trans H1 (by decide))) ?_
  refine ay (fun b:az=>ret ((az.r b):bp)) (fun c2=>?_) (fun c2=>?_)
  ·all_goals exact fz
  ·have dc2:=c2
   try simp only [DC] at dc2
   try have tc2:=Z46.tr (by simpa using c2)
   refine ct (Z42.aq H0.1) ?_
   try simp only [SS]
   refine ct (Z92.aq H0.2) ?_
   have fv4_:=Z92.fa a0.bP a1
   refine ay (fun b:az=>ret ((az.r b):bp)) (fun c3=>?_) (fun c3=>?_)
   ·have dc3:=c3
    try simp only [DC] at dc3
    refine ak dt ?_
    refine ak (have:=(H0.2).1;dt) ?_
    refine ct (Z93.aq (bO.getD (z:=ah.zero) H0.2 (by first | assumption | omega | (simp (disch:=omega) only [wi];omega) | (simp;omega)))) ?_
    try simp only [SS]
    refine ct (Z95.aq H0.2) ?_
    try simp only [SS]
    all_goals exact fz
   ·refine ct (Z97.aq ⟨H0.2,H1⟩) ?_
    try simp only [SS]
    all_goals exact fz
def af:cG 260 aW:=W2 52 F mix aF bB (.cons Z89.af (.cons Z46.af (.cons Z42.af (.cons Z92.af (.cons Z93.af (.cons Z95.af (.cons Z97.af .nil))))))) Tryz.func260
def fW {a0:aN}{a1:aE}(hg:gd a0 a1):az.Sm (2^21) (md a0 a1):=by
 unfold gd at hg;unfold md
 obtain ⟨⟨hc,hl⟩,_⟩:=hg
 have ez:ah.Sm (2^21) ⟨⟨#[]⟩,0,0,[]⟩:=⟨zero_le _,bO.nil⟩
 have pz:aP.Sm (2^21) ⟨0,[]⟩:=bO.nil
 have gz:bW.Sm (2^21) ⟨0,⟨⟨#[]⟩,0,0,[]⟩,⟨⟨#[]⟩,0,0,[]⟩,⟨0,[]⟩,⟨0,[]⟩⟩:=⟨ez,ez,pz,pz⟩
 have he:∀i,ah.Sm (2^21) (a0.bP.getD i ah.zero):=fun i=>bO.wg hl ez
 have hp:∀x,aP.Sm (2^21) (Z95.md a0.bP x).1:=fun x=>Z95.fW hl
 have hga:bW.Sm (2^21) (Z97.md a0.bP a1).1:=Z97.fW ⟨hl,by assumption⟩
 simp only [Bool.cond_eq_ite]
 repeat' split
 all_goals (refine ⟨?_,?_,?_,?_⟩<;>first | exact hc | exact bO.nil | exact he _ | exact hp _ | exact hga | exact ez | exact pz | exact gz)
def sz (a0:aN)(a1:aE):az.size (md a0 a1)<=6*aN.size a0:=by
 have hz:aN.size a0=dP (fun y:aa=>aa.size y) a0.aU+dP (fun y:ah=>ah.size y) a0.bP:=rfl
 have hl:a0.bP.length<=dP (fun y:ah=>ah.size y) a0.bP:=Nat.le_add_right _ _
 have he:∀i,ah.size (a0.bP.getD i ah.zero)<=dP (fun y:ah=>ah.size y) a0.bP:=fun i=>nB (f:=fun y:ah=>ah.size y) (z:=ah.zero) rfl
 have hp:=Z95.sz a0.bP a1
 have hg:=Z97.sz a0.bP a1
 have hd:∀(c:List aa) (f:Bool) (e:ah) (p:aP) (g:bW),az.size ⟨c,f,e,p,g⟩=dP (fun y:aa=>aa.size y) c+ah.size e+aP.size p+bW.size g:=fun _ _ _ _ _=>rfl
 have e0:ah.size ⟨⟨#[]⟩,0,0,[]⟩=0:=rfl
 have p0:aP.size ⟨0,[]⟩=0:=rfl
 have g0:bW.size ⟨0,⟨⟨#[]⟩,0,0,[]⟩,⟨⟨#[]⟩,0,0,[]⟩,⟨0,[]⟩,⟨0,[]⟩⟩=0:=rfl
 have c0:dP (fun y:aa=>aa.size y) []=0:=rfl
 have h1:=he (toNat (Z92.md a0.bP a1))
 unfold md
 simp only [Bool.cond_eq_ite]
 repeat' split
 all_goals simp only [hd,e0,p0,g0,c0]
 all_goals omega
end Z98
namespace Z99
def F (x0:cR)(x1:Int)(x2:aE):aK:=(call (Z91.R (x0,x1)) fun v1=>(cond (decide (v1<0)) (ret ((⟨[],false,(⟨(⟨#[]⟩:aE),0,0,[]⟩:bf),(⟨0,[]⟩:bT),(⟨0,(⟨(⟨#[]⟩:aE),0,0,[]⟩:bf),(⟨(⟨#[]⟩:aE),0,0,[]⟩:bf),(⟨0,[]⟩:bT),(⟨0,[]⟩:bT)⟩:dV)⟩:bp):bp)) (cond (x0.gS==4) (ret ((⟨[],false,(⟨(⟨#[]⟩:aE),0,0,[]⟩:bf),(⟨0,[]⟩:bT),(⟨0,(⟨(⟨#[]⟩:aE),0,0,[]⟩:bf),(⟨(⟨#[]⟩:aE),0,0,[]⟩:bf),(⟨0,[]⟩:bT),(⟨0,[]⟩:bT)⟩:dV)⟩:bp):bp)) (m2 v1 (x0.bK.length:Int) (call (Z98.R ((dS.at x0.bK (toNat v1)),x2)) fun v2=>(cond (x0.gS==1) (ret ((⟨v2.aU,v2.cA,(⟨v2.aV.bn,v2.aV.bM,(i64.wrap (v2.aV.cq+1)),v2.aV.bH⟩:bf),v2.eE,v2.fc⟩:bp):bp)) (cond (x0.gS==2) (cond (decide ((v2.aU.length:Int)>0)) (cm (decide ((0:Int)<=(i64.wrap ((v2.aU.length:Int) - 1)))) (cm (decide ((i64.wrap ((v2.aU.length:Int) - 1))<=(v2.aU.length:Int))) (ret ((⟨(List.take (toNat (i64.wrap ((v2.aU.length:Int) - 1))) v2.aU),v2.cA,v2.aV,v2.eE,v2.fc⟩:bp):bp)))) (ret (v2:bp))) (cond (x0.gS==3) (ret ((⟨v2.aU,false,(⟨(⟨#[]⟩:aE),0,0,[]⟩:bf),(⟨0,[]⟩:bT),(⟨0,(⟨(⟨#[]⟩:aE),0,0,[]⟩:bf),(⟨(⟨#[]⟩:aE),0,0,[]⟩:bf),(⟨0,[]⟩:bT),(⟨0,[]⟩:bT)⟩:dV)⟩:bp):bp)) (ret (v2:bp))))))))))
def pats:List gk:=[.agg [.sl 293,aC],.rd (.int .i64),.rd (.str)]
def res:RP:=.agg [.fr 123,.rd (.bool),.rd (.str),.rd (.int .i64),.rd (.int .i64),.fr 9,.rd (.int .i64),.fr 3,.rd (.int .i64),.rd (.str),.rd (.int .i64),.rd (.int .i64),.fr 9,.rd (.str),.rd (.int .i64),.rd (.int .i64),.fr 9,.rd (.int .i64),.fr 3,.rd (.int .i64),.fr 3]
def md (a0:av)(a1:Int)(a2:aE):az:=(cond (decide ((Z91.md a0 a1)<0)) (⟨[],false,(⟨((⟨#[]⟩:aE):aE),0,0,[]⟩:ah),(⟨0,[]⟩:aP),(⟨0,(⟨((⟨#[]⟩:aE):aE),0,0,[]⟩:ah),(⟨((⟨#[]⟩:aE):aE),0,0,[]⟩:ah),(⟨0,[]⟩:aP),(⟨0,[]⟩:aP)⟩:bW)⟩:az) (cond (a0.gS==4) (⟨[],false,(⟨((⟨#[]⟩:aE):aE),0,0,[]⟩:ah),(⟨0,[]⟩:aP),(⟨0,(⟨((⟨#[]⟩:aE):aE),0,0,[]⟩:ah),(⟨((⟨#[]⟩:aE):aE),0,0,[]⟩:ah),(⟨0,[]⟩:aP),(⟨0,[]⟩:aP)⟩:bW)⟩:az) (cond (a0.gS==1) (⟨(Z98.md (a0.bK.getD (toNat (Z91.md a0 a1)) aN.zero) a2).aU,(Z98.md (a0.bK.getD (toNat (Z91.md a0 a1)) aN.zero) a2).cA,(⟨(Z98.md (a0.bK.getD (toNat (Z91.md a0 a1)) aN.zero) a2).aV.bn,(Z98.md (a0.bK.getD (toNat (Z91.md a0 a1)) aN.zero) a2).aV.bM,(i64.wrap ((Z98.md (a0.bK.getD (toNat (Z91.md a0 a1)) aN.zero) a2).aV.cq+1)),(Z98.md (a0.bK.getD (toNat (Z91.md a0 a1)) aN.zero) a2).aV.bH⟩:ah),(Z98.md (a0.bK.getD (toNat (Z91.md a0 a1)) aN.zero) a2).eE,(Z98.md (a0.bK.getD (toNat (Z91.md a0 a1)) aN.zero) a2).fc⟩:az) (cond (a0.gS==2) (cond (decide (((Z98.md (a0.bK.getD (toNat (Z91.md a0 a1)) aN.zero) a2).aU.length:Int)>0)) (⟨(List.take (toNat (i64.wrap (((Z98.md (a0.bK.getD (toNat (Z91.md a0 a1)) aN.zero) a2).aU.length:Int) - 1))) (Z98.md (a0.bK.getD (toNat (Z91.md a0 a1)) aN.zero) a2).aU),(Z98.md (a0.bK.getD (toNat (Z91.md a0 a1)) aN.zero) a2).cA,(Z98.md (a0.bK.getD (toNat (Z91.md a0 a1)) aN.zero) a2).aV,(Z98.md (a0.bK.getD (toNat (Z91.md a0 a1)) aN.zero) a2).eE,(Z98.md (a0.bK.getD (toNat (Z91.md a0 a1)) aN.zero) a2).fc⟩:az) (Z98.md (a0.bK.getD (toNat (Z91.md a0 a1)) aN.zero) a2)) (cond (a0.gS==3) (⟨(Z98.md (a0.bK.getD (toNat (Z91.md a0 a1)) aN.zero) a2).aU,false,(⟨((⟨#[]⟩:aE):aE),0,0,[]⟩:ah),(⟨0,[]⟩:aP),(⟨0,(⟨((⟨#[]⟩:aE):aE),0,0,[]⟩:ah),(⟨((⟨#[]⟩:aE):aE),0,0,[]⟩:ah),(⟨0,[]⟩:aP),(⟨0,[]⟩:aP)⟩:bW)⟩:az) (Z98.md (a0.bK.getD (toNat (Z91.md a0 a1)) aN.zero) a2))))))
def gd (a0:av)(a1:Int)(a2:aE):Prop:=(av.Sm (2^21) a0)/\(a2.size<=(2^21))
def acc (ls:List L):cR×Int×aE:=((cR.dec ls),((aA 2 ls).headD .hole).toInt,((aA 3 ls).headD .hole).toStr)
def R:(cR×Int×aE)->Option bp:=RR (p3 gd) (u3 md)
def aq {a0 a1 a2}(h:gd a0 a1 a2):R ((av.r a0),a1,a2)=some (az.r (md a0 a1 a2)):=aR (a:=(a0,a1,a2)) h
def aW:ga:=CN pats res acc R
def bB (a0:av)(a1:Int)(a2:aE)(hg:gd a0 a1 a2):F (av.r a0) a1 a2=ret ((az.r (md a0 a1 a2)):bp):=by
 obtain ⟨H0,H2⟩:=hg
 unfold F md
 try simp only [SS]
 refine ct (Z91.aq H0) ?_
 have fv1_:=Z91.fa a0 a1
 refine ay (fun b:az=>ret ((az.r b):bp)) (fun c1=>?_) (fun c1=>?_)
 ·all_goals exact fz
 ·have dc1:=c1
  try simp only [DC] at dc1
  refine ay (fun b:az=>ret ((az.r b):bp)) (fun c2=>?_) (fun c2=>?_)
  ·all_goals exact fz
  ·have dc2:=c2
   try simp only [DC] at dc2
   refine ak (have:=(H0).1;dt) ?_
   refine ak (have:=(H0).1;have:=(H0).1;dt) ?_
   refine ct (Z98.aq ⟨(bO.getD (z:=aN.zero) H0 (by have:=(H0).1;first | assumption | omega | (simp (disch:=omega) only [wi];omega) | (simp;omega))),H2⟩) ?_
   try simp only [SS]
   refine ay (fun b:az=>ret ((az.r b):bp)) (fun c3=>?_) (fun c3=>?_)
   ·all_goals exact fz
   ·have dc3:=c3
    try simp only [DC] at dc3
    refine ay (fun b:az=>ret ((az.r b):bp)) (fun c4=>?_) (fun c4=>?_)
    ·have dc4:=c4
     try simp only [DC] at dc4
     refine ay (fun b:az=>ret ((az.r b):bp)) (fun c5=>?_) (fun c5=>?_)
     ·have dc5:=c5
      try simp only [DC] at dc5
      refine ak (have:=((Z98.fW (a0:=a0.bK.getD (toNat (Z91.md a0 a1)) aN.zero) (a1:=a2) ⟨(bO.getD (z:=aN.zero) H0 (by have:=(H0).1;first | assumption | omega | (simp (disch:=omega) only [wi];omega) | (simp;omega))),H2⟩).1).1;have:=(H0).1;dt) ?_
      refine ak (have:=((Z98.fW (a0:=a0.bK.getD (toNat (Z91.md a0 a1)) aN.zero) (a1:=a2) ⟨(bO.getD (z:=aN.zero) H0 (by have:=(H0).1;first | assumption | omega | (simp (disch:=omega) only [wi];omega) | (simp;omega))),H2⟩).1).1;have:=(H0).1;dt) ?_
      all_goals exact fz
     ·all_goals exact fz
    ·refine ay (fun b:az=>ret ((az.r b):bp)) (fun c6=>?_) (fun c6=>?_)
     ·all_goals exact fz
     ·all_goals exact fz
def af:cG 343 aW:=VT (live:=fun _=>[]) (nt:=57) (run:=fun _ x=>F x.1 x.2.1 x.2.2) mix aF (.cons Z91.af (.cons Z98.af .nil)) .nil Tryz.func343 (by kernel_rfl) (fun _ _=>by kernel_rfl) (fun _ a _ _ hg=>⟨0,bB a.1 a.2.1 a.2.2 hg⟩)
def fW {a0:av}{a1:Int}{a2:aE}(hg:gd a0 a1 a2):az.Sm (2^21) (md a0 a1 a2):=by
 unfold gd at hg;unfold md
 obtain ⟨hs,hl⟩:=hg
 have ez:ah.Sm (2^21) ⟨⟨#[]⟩,0,0,[]⟩:=⟨zero_le _,bO.nil⟩
 have pz:aP.Sm (2^21) ⟨0,[]⟩:=bO.nil
 have gz:bW.Sm (2^21) ⟨0,⟨⟨#[]⟩,0,0,[]⟩,⟨⟨#[]⟩,0,0,[]⟩,⟨0,[]⟩,⟨0,[]⟩⟩:=⟨ez,ez,pz,pz⟩
 have zz:aN.Sm (2^21) aN.zero:=⟨bO.nil,bO.nil⟩
 have ha:∀i,az.Sm (2^21) (Z98.md (a0.bK.getD i aN.zero) a2):=fun i=>Z98.fW ⟨bO.wg hs zz,hl⟩
 have ht:∀i n,bO (2^21) (fun y:aa=>aa.Sm (2^21) y) (List.take n (List.drop 0 (Z98.md (a0.bK.getD i aN.zero) a2).aU)):=fun i n=>⟨le_trans (by simp;omega) (ha i).1.1,fun x hx=>(ha i).1.2 x (List.mem_of_mem_take hx)⟩
 have ht2:∀i n,bO (2^21) (fun y:aa=>aa.Sm (2^21) y) (List.take n (Z98.md (a0.bK.getD i aN.zero) a2).aU):=fun i n=>⟨le_trans (by simp;omega) (ha i).1.1,fun x hx=>(ha i).1.2 x (List.mem_of_mem_take hx)⟩
 simp only [Bool.cond_eq_ite]
 repeat' split
 all_goals first | exact ha _ | (refine ⟨?_,?_,?_,?_⟩<;>first | exact ht _ _ | exact ht2 _ _ | exact bO.nil | exact (ha _).1 | exact (ha _).2.1 | exact (ha _).2.2.1 | exact (ha _).2.2.2 | exact ez | exact pz | exact gz)
def vY {α:Type}(f:α->Nat):∀(n:Nat) (xs:List α),dP f (xs.take n)<=dP f xs
 | 0,xs=>by simp [dP]
 | n+1,[]=>by simp [dP]
 | n+1,x::xs=>by
  have:=vY f n xs
  unfold dP at this ⊢
  simp only [List.take_succ_cons,List.length_cons,List.map_cons,List.sum_cons]
  omega
def sz (a0:av)(a1:Int)(a2:aE):az.size (md a0 a1 a2)<=6*av.size a0:=by
 have hz:aN.size (a0.bK.getD (toNat (Z91.md a0 a1)) aN.zero)<=av.size a0:=nB (f:=fun y:aN=>aN.size y) (xs:=a0.bK) (z:=aN.zero) rfl
 have hA:=Z98.sz (a0.bK.getD (toNat (Z91.md a0 a1)) aN.zero) a2
 have hd:∀(c:List aa) (f:Bool) (e:ah) (p:aP) (g:bW),az.size ⟨c,f,e,p,g⟩=dP (fun y:aa=>aa.size y) c+ah.size e+aP.size p+bW.size g:=fun _ _ _ _ _=>rfl
 have he:∀(l:aE) (k v:Int) (p:List aE),ah.size ⟨l,k,v,p⟩=l.size+dP (fun y:aE=>y.size) p:=fun _ _ _ _=>rfl
 unfold md
 revert hA
 generalize Z98.md (a0.bK.getD (toNat (Z91.md a0 a1)) aN.zero) a2=A
 intro hA
 have hA2:az.size A=dP (fun y:aa=>aa.size y) A.aU+ah.size A.aV+aP.size A.eE+bW.size A.fc:=rfl
 have hE2:ah.size A.aV=A.aV.bn.size+dP (fun y:aE=>y.size) A.aV.bH:=rfl
 have ht:=fun n=>vY (fun y:aa=>aa.size y) n A.aU
 have e0:ah.size ⟨⟨#[]⟩,0,0,[]⟩=0:=rfl
 have p0:aP.size ⟨0,[]⟩=0:=rfl
 have g0:bW.size ⟨0,⟨⟨#[]⟩,0,0,[]⟩,⟨⟨#[]⟩,0,0,[]⟩,⟨0,[]⟩,⟨0,[]⟩⟩=0:=rfl
 have c0:dP (fun y:aa=>aa.size y) []=0:=rfl
 have ht1:=ht (toNat (i64.wrap ((A.aU.length:Int) - 1)))
 simp only [Bool.cond_eq_ite]
 repeat' split
 all_goals first
  | omega
  | (simp only [hd,e0,p0,g0,c0];omega)
  | (simp only [hd,he];omega)
end Z99
namespace Z100
inductive Pt where
 | p0 (a:aD) (b:Int) (c:aE) (d:Int) (e:aD)
def pid:Pt->Nat
 | .p0 ..=>3
def cg:Pt->List V
 | .p0 a b c d e=>[.sl none 227 a,.int .i64 b,.str c,.own 0,.int .i64 d]
def bZ:Pt->List aZ
 | .p0 a b c d e=>[.row 132 e]
def step (J:Pt->aK):Pt->aK
 | .p0 a b c d e=>(cond (decide (d<(a.length:Int))) (cond (decide (d<4)) (m2 d (a.length:Int) (call (Z99.R ((cR.at a (toNat d)),b,c)) fun v1=>(cm (ff (((e.length:Int)+1)*304)) (J (.p0 a b c (i64.wrap (d+1)) (e++[(bp.enc v1)])))))) (ret (e:aD))) (ret (e:aD)))
def start (J:Pt->aK)(x0:aD)(x1:Int)(x2:aE):aK:=J (.p0 x0 x1 x2 0 [])
def live:Nat->Live:=fun i=>match i with | 3=>[(0,none),(1,none),(2,none),(7,some 132),(8,none)] | _=>[]
def md (a0:List av)(a1:Int)(a2:aE):List az:=(dJ (S:=List az) (β:=List az) (fun (i1:Nat) (y1:av) (s3:List az)=>(cond (decide ((i1:Int)<4)) (.inl (s3++[(Z99.md y1 a1 a2)])) (.inr s3))) (fun (s3:List az)=>s3) 0 a0 [])
def gd (a0:List av)(a1:Int)(a2:aE):Prop:=(bO (2^21) (fun y:av=>av.Sm (2^21) y) a0)/\(a2.size<=(2^21))
def R:=RR (p3 gd) (u3 md)
def aq {a0 a1 a2}(h:gd a0 a1 a2):R ((a0.map av.row),a1,a2)=some ((md a0 a1 a2).map az.row):=aR (a:=(a0,a1,a2)) h
def aW:=CN [pL 227,pI,pS] (oL 132) RT.dec R
def bB (a0)(a1)(a2)(hg:gd a0 a1 a2):∃n,start (iter step n) (a0.map av.row) a1 a2=ret ((md a0 a1 a2).map az.row):=by
 obtain ⟨H0,H2⟩:=hg
 unfold start md
 try simp only [SS]
 have Bh2:a0.length<=maxLen:=(by
   have:=(H0).1
   try simp only [maxLen] at *
   omega)
 refine ex_eq (out:=(fun b:List az=>ret ((b.map az.row):aD))) (dc (z:=av.zero)) ?_
 refine dR (p:=Pt.p0 (a0.map av.row) a1 a2 0 ([].map az.row)) fz ?_
 refine cu (pt:=fun (i1:Nat) (s3:List az)=>Pt.p0 (a0.map av.row) a1 a2 (i1:Int) (s3.map az.row)) (s:=([]:List az)) (out:=(fun b:List az=>ret ((b.map az.row):aD))) (fun (i1:Nat) (s3:List az)=>s3.length<=([]:List Int).length+1*i1) (fun J i1 s3 h2 hih2=>?_) (fun s3 hih2=>?_) (by simp)
 ·simp only [step,SS]
  have gr_:=hih2
  try simp only [LN] at gr_
  have bb_:=Bh2
  simp only [maxLen] at bb_
  have:=(H0).1
  refine bD.yes (by apply decide_eq_true;omega) ?_
  refine bD.bif (fun c4=>?_) (fun c4=>?_)
  ·have dc4:=c4
   try simp only [DC] at dc4
   refine bD.yes aJ ?_
   refine bD.yes (aL h2) ?_
   refine cr (Z99.aq ⟨(bO.getD (z:=av.zero) H0 h2),H2⟩) ?_
   try simp only [SS]
   refine bD.yes lm ?_
   refine bD.inl (by
     have g_:=hih2
     try simp only [LN] at g_ ⊢
     first | omega | (simp;done) | (simp;omega)) ?_
   rw [aI h2 Bh2]
   all_goals exact fz
  ·refine bD.inr ?_
   all_goals exact fz
 ·simp only [step,SS]
  have gr_:=hih2
  try simp only [LN] at gr_
  have:=(H0).1
  refine dF (by apply decide_eq_false;omega) ?_
  refine ⟨0,?_⟩
  all_goals exact fz
def af:cG 210 aW:=L3 31 pid cg bZ live step start mix aF bB (.cons Z99.af .nil) Tryz.func210
def qc (a0:List av)(a1:Int)(a2:aE):md a0 a1 a2=(a0.take 4).map (fun y=>Z99.md y a1 a2):=by
 have key:∀(xs:List av) (i:Nat) (s:List az),i<=4->dJ (S:=List az) (β:=List az) (fun (i1:Nat) (y1:av) (s3:List az)=>(cond (decide ((i1:Int)<4)) (.inl (s3++[(Z99.md y1 a1 a2)])) (.inr s3))) (fun (s3:List az)=>s3) i xs s=s++(xs.take (4 - i)).map (fun y=>Z99.md y a1 a2):=by
  intro xs
  induction xs with
  | nil=>intro i s _;simp [dJ]
  | cons x xs ih=>
   intro i s hi
   unfold dJ
   by_cases h:i<4
   ·rw [decide_eq_true (by omega)]
    simp only [bq]
    rw [ih (i+1) _ (by omega),show 4 - i=(4 - (i+1))+1 by omega]
    simp
   ·rw [decide_eq_false (by omega),show 4 - i=0 by omega]
    simp
 exact (key a0 0 [] (by omega)).trans (by simp)
def fW {a0:List av}{a1:Int}{a2:aE}(hg:gd a0 a1 a2):bO (2^21) (fun y:az=>az.Sm (2^21) y) (md a0 a1 a2):=by
 unfold gd at hg
 rw [qc]
 exact (bO.take hg.1).map fun x hx=>Z99.fW ⟨hx,hg.2⟩
def B5 (a0:List av)(a1:Int)(a2:aE):(md a0 a1 a2).length<=4:=by
 rw [qc,List.length_map]
 exact le_trans (List.length_take_le _ _) (Nat.le_refl _)
def sz (a0:List av)(a1:Int)(a2:aE):dP (fun y:az=>az.size y) (md a0 a1 a2)<=6*dP (fun y:av=>av.size y) a0:=by
 rw [qc]
 have key:∀xs:List av,dP (fun y:az=>az.size y) (xs.map (fun y=>Z99.md y a1 a2))<=6*dP (fun y:av=>av.size y) xs:=by
  intro xs
  induction xs with
  | nil=>exact zero_le _
  | cons x xs ih=>
   have h:=Z99.sz x a1 a2
   unfold dP at ih ⊢
   simp only [List.map_cons,List.length_cons,List.sum_cons,List.length_map] at ih ⊢
   omega
 exact le_trans (key _) (Nat.mul_le_mul_left _ (Z99.vY _ _ _))
end Z100
namespace Z101
inductive Pt where
 | p0 (a b:Int) (c:bt)
def pid:Pt->Nat
 | .p0 ..=>2
def cg:Pt->List V
 | .p0 a b c=>[.int .i64 a,.dy 0 0,.int .i64 b]
def bZ:Pt->List aZ
 | .p0 a b c=>[.box [.sl none 92 c.aH,.sl none 280 c.aY]]
def step (J:Pt->aK):Pt->aK
 | .p0 a b c=>(cond (decide (b<(c.aH.length:Int))) (m2 b (c.aH.length:Int) (cond (decide (((oT c.aH (toNat b)).length:Int)>0)) (m2 b (c.aH.length:Int) (cm (decide ((0:Int)<((oT c.aH (toNat b)).length:Int))) (cond ((aT.at (oT c.aH (toNat b)) 0).au.bz==a) (ret (b:Int)) (J (.p0 a (i64.wrap (b+1)) c))))) (J (.p0 a (i64.wrap (b+1)) c)))) (ret ((-1):Int)))
def start (J:Pt->aK)(x0:bt)(x1:Int):aK:=J (.p0 x1 0 x0)
def live:Nat->Live:=fun i=>match i with | 2=>[(1,none),(2,none),(5,none)] | _=>[]
def md (a0:aj)(a1:Int):Int:=(dJ (S:=Unit) (β:=Int) (fun (i1:Nat) (y1:List aa) (s3:Unit)=>(cond (decide ((y1.length:Int)>0)) (cond (((y1.getD 0 aa.zero).au).bz==a1) (.inr ((i1:Int):Int)) (.inl ())) (.inl ()))) (fun (s3:Unit)=>((-1):Int)) 0 a0.aH ())
def gd (a0:aj)(a1:Int):Prop:=(aj.Sm (2^21) a0)
def R:=RR (p2 gd) (u2 md)
def aq {a0 a1}(h:gd a0 a1):R ((aj.r a0),a1)=some (md a0 a1):=aR (a:=(a0,a1)) h
def aW:=CN [.agg rU,pI] oI RT.dec R
def bB (a0)(a1)(hg:gd a0 a1):∃n,start (iter step n) (aj.r a0) a1=ret (md a0 a1):=by
 unfold gd at hg
 have H0:=hg
 unfold start md
 try simp only [SS]
 have Bh2:a0.aH.length<=maxLen:=(by
   have:=(H0.1).1
   try simp only [maxLen] at *
   omega)
 refine ex_eq (out:=ret) (dc (z:=[])) ?_
 refine dR (p:=Pt.p0 a1 0 (aj.r a0)) fz ?_
 refine cu (pt:=fun (i1:Nat) (s3:Unit)=>Pt.p0 a1 (i1:Int) (aj.r a0)) (s:=(():Unit)) (out:=ret) (fun _ _=>True) (fun J i1 s3 h2 hih2=>?_) (fun s3 hih2=>?_) trivial
 ·simp only [step,SS]
  have bb_:=Bh2
  simp only [maxLen] at bb_
  have:=(H0.1).1
  refine bD.yes (by apply decide_eq_true;omega) ?_
  refine bD.yes aJ ?_
  refine bD.yes (aL h2) ?_
  refine bD.bif (fun c4=>?_) (fun c4=>?_)
  ·have dc4:=c4
   try simp only [DC] at dc4
   refine bD.yes aJ ?_
   refine bD.yes (aL h2) ?_
   refine bD.yes (have:=((bO.getD (z:=[]) H0.1 h2)).1;dt) ?_
   refine bD.bif (fun c5=>?_) (fun c5=>?_)
   ·refine bD.inr ?_
    all_goals exact fz
   ·refine bD.inl trivial ?_
    rw [aI h2 Bh2]
    all_goals exact fz
  ·refine bD.inl trivial ?_
   rw [aI h2 Bh2]
   all_goals exact fz
 ·simp only [step,SS]
  have:=(H0.1).1
  refine dF (by apply decide_eq_false;omega) ?_
  refine ⟨0,?_⟩
  all_goals exact fz
def af:cG 245 aW:=L2 34 pid cg bZ live step start mix aF bB .nil Tryz.func245
def fa (a0:aj)(a1:Int):-1<=md a0 a1/\md a0 a1<(a0.aH.length:Int):=by
 unfold md
 refine gx ?_ _ _
 all_goals
  intro i x s b h
  revert h
  simp only [Bool.cond_eq_ite]
  repeat' split
  all_goals (intro h;first | (cases h;rfl) | cases h)
end Z101
namespace Z102
def F (x0 x1:ck):aK:=(call (Z56.R x0) fun v1=>(call (Z56.R x1) fun v2=>(call (Z65.R (v1,v2)) fun v3=>(cond v3 (ret ((x0.bG==x1.bG):Bool)) bh))))
def md (a0 a1:aG):Bool:=(cond (Z65.md (Z56.md a0) (Z56.md a1)) ((a0.bG==a1.bG):Bool) (false:Bool))
def gd (a0 a1:aG):Prop:=(aG.Sm (2^21) a0)/\(aG.Sm (2^21) a1)
def R:=RR (p2 gd) (u2 md)
def aq {a0 a1}(h:gd a0 a1):R ((aG.r a0),(aG.r a1))=some (md a0 a1):=aR (a:=(a0,a1)) h
def aW:=CN [.agg gi,.agg gi] oB RT.dec R
def bB (a0)(a1)(hg:gd a0 a1):F (aG.r a0) (aG.r a1)=ret (md a0 a1):=by
 obtain ⟨H0,H1⟩:=hg
 unfold F md
 try simp only [SS]
 refine ct (Z56.aq H0) ?_
 try simp only [SS]
 refine ct (Z56.aq H1) ?_
 try simp only [SS]
 refine ct (Z65.aq ⟨⟨(have:=Z56.len a0;have:=(H0.1).1;have:=(H0.2.1).1;have:=(H0.2.2).1;om),fun _ _=>trivial⟩,⟨(have:=Z56.len a1;have:=(H1.1).1;have:=(H1.2.1).1;have:=(H1.2.2).1;om),fun _ _=>trivial⟩⟩) ?_
 refine ay ret (fun c1=>?_) (fun _=>rfl)
 all_goals exact fz
def af:cG 368 aW:=W2 17 F mix aF bB (.cons Z56.af (.cons Z65.af .nil)) Tryz.func368
def md_eq (a0 a1:aG):md a0 a1=eo a0 a1:=by
 unfold md
 simp only [Z65.md_eq,bool_beq]
 rw [Bool.eq_iff_iff]
 constructor
 ·intro h
  cases he:eo (Z56.md a0) (Z56.md a1)<;>rw [he] at h
  ·cases h
  ·exact dA.2 (Z56.inj (dA.1 he))
 ·intro h
  rw [dA] at h
  rw [h,eY,eY];rfl
end Z102
namespace Z103
inductive Pt where
 | p0 (a b:aD) (c:Int)
def pid:Pt->Nat
 | .p0 ..=>4
def cg:Pt->List V
 | .p0 a b c=>[.sl none 123 a,.sl none 123 b,.int .i64 c]
def bZ:Pt->List aZ
 | .p0 a b c=>[]
def step (J:Pt->aK):Pt->aK
 | .p0 a b c=>(cond (decide (c<(a.length:Int))) (m2 c (a.length:Int) (m2 c (b.length:Int) (call (Z102.R ((aT.at a (toNat c)).au,(aT.at b (toNat c)).au)) fun v1=>(cond (!v1) bh (J (.p0 a b (i64.wrap (c+1)))))))) eF)
def start (J:Pt->aK)(x0 x1:aD):aK:=(cond (decide ((x0.length:Int)>(x1.length:Int))) bh (J (.p0 x0 x1 0)))
def live:Nat->Live:=fun i=>match i with | 4=>[(0,none),(1,none),(5,none)] | _=>[]
def md (a0 a1:List aa):Bool:=(bif (decide ((a0.length:Int)>(a1.length:Int))) then (false:Bool) else (eC (S:=Unit) (β:=Bool) (fun (i2:Nat) (s4:Unit)=>(cond (!(Z102.md ((a0.getD i2 aa.zero).au) ((a1.getD i2 aa.zero).au))) (.inr (false:Bool)) (.inl ()))) (fun (s4:Unit)=>(true:Bool)) a0.length 0 ()))
def gd (a0 a1:List aa):Prop:=(bO (2^21) (fun y:aa=>aa.Sm (2^21) y) a0)/\(bO (2^21) (fun y:aa=>aa.Sm (2^21) y) a1)
def R:=RR (p2 gd) (u2 md)
def aq {a0 a1}(h:gd a0 a1):R ((a0.map aa.row),(a1.map aa.row))=some (md a0 a1):=aR (a:=(a0,a1)) h
def aW:=CN [pL 123,pL 123] oB RT.dec R
def bB (a0)(a1)(hg:gd a0 a1):∃n,start (iter step n) (a0.map aa.row) (a1.map aa.row)=ret (md a0 a1):=by
 obtain ⟨H0,H1⟩:=hg
 unfold start md
 try simp only [SS]
 refine hU ret (fun _=>⟨0,rfl⟩) (fun c1=>?_)
 have dc1:=c1
 try simp only [DC] at dc1
 have Bh3:a0.length<=maxLen:=(by
   have:=(H0).1
   try simp only [maxLen] at *
   omega)
 refine dR (p:=Pt.p0 (a0.map aa.row) (a1.map aa.row) 0) fz ?_
 refine cu (pt:=fun (i2:Nat) (s4:Unit)=>Pt.p0 (a0.map aa.row) (a1.map aa.row) (i2:Int)) (s:=(():Unit)) (out:=ret) (fun _ _=>True) (fun J i2 s4 h3 hih3=>?_) (fun s4 hih3=>?_) trivial
 ·simp only [step,SS]
  have bb_:=Bh3
  simp only [maxLen] at bb_
  have:=(H0).1
  refine bD.yes (by apply decide_eq_true;omega) ?_
  refine bD.yes aJ ?_
  refine bD.yes (aL h3) ?_
  refine bD.yes aJ ?_
  refine bD.yes (have:=(H1).1;dt) ?_
  refine cr (Z102.aq ⟨(bO.getD (z:=aa.zero) H0 h3).1,(bO.getD (z:=aa.zero) H1 (by first | assumption | omega | (simp (disch:=omega) only [wi];omega) | (simp;omega))).1⟩) ?_
  refine bD.bif (fun _=>bD.inr rfl) (fun c5=>?_)
  refine bD.inl trivial ?_
  rw [aI h3 Bh3]
  all_goals exact fz
 ·simp only [step,SS]
  have:=(H0).1
  refine dF (by apply decide_eq_false;omega) ?_
  refine ⟨0,?_⟩
  all_goals exact fz
def af:cG 302 aW:=L2 29 pid cg bZ live step start mix aF bB (.cons Z102.af .nil) Tryz.func302
end Z103
namespace Z104
def F (x0:bt)(x1:aD):aK:=(call (Z73.R x1) fun v1=>(cond (!v1) (ret (6:Int)) (cm (decide ((0:Int)<(x1.length:Int))) (call (Z101.R (x0,(aT.at x1 0).au.bz)) fun v2=>(cond (decide (v2<0)) (ret (1:Int)) (m2 v2 (x0.aH.length:Int) (call (Z103.R ((oT x0.aH (toNat v2)),x1)) fun v3=>(m2 v2 (x0.aH.length:Int) (call (Z103.R (x1,(oT x0.aH (toNat v2)))) fun v4=>(cond v3 (cond v4 (ret (2:Int)) (cond v3 (ret (3:Int)) (cond v4 (ret (4:Int)) (ret (5:Int))))) (cond v3 (ret (3:Int)) (cond v4 (ret (4:Int)) (ret (5:Int))))))))))))))
def md (a0:aj)(a1:List aa):Int:=(cond (!(Z73.md a1)) (6:Int) (cond (decide ((Z101.md a0 (((a1.getD 0 aa.zero).au).bz))<0)) (1:Int) (cond (Z103.md (a0.aH.getD (toNat (Z101.md a0 (((a1.getD 0 aa.zero).au).bz))) []) a1) (cond (Z103.md a1 (a0.aH.getD (toNat (Z101.md a0 (((a1.getD 0 aa.zero).au).bz))) [])) (2:Int) (cond (Z103.md (a0.aH.getD (toNat (Z101.md a0 (((a1.getD 0 aa.zero).au).bz))) []) a1) (3:Int) (cond (Z103.md a1 (a0.aH.getD (toNat (Z101.md a0 (((a1.getD 0 aa.zero).au).bz))) [])) (4:Int) (5:Int)))) (cond (Z103.md (a0.aH.getD (toNat (Z101.md a0 (((a1.getD 0 aa.zero).au).bz))) []) a1) (3:Int) (cond (Z103.md a1 (a0.aH.getD (toNat (Z101.md a0 (((a1.getD 0 aa.zero).au).bz))) [])) (4:Int) (5:Int))))))
def gd (a0:aj)(a1:List aa):Prop:=(aj.Sm (2^21) a0)/\(bO (2^21) (fun y:aa=>aa.Sm (2^21) y) a1)
def R:=RR (p2 gd) (u2 md)
def aq {a0 a1}(h:gd a0 a1):R ((aj.r a0),(a1.map aa.row))=some (md a0 a1):=aR (a:=(a0,a1)) h
def aW:=CN [.agg rU,pL 123] oI RT.dec R
def bB (a0)(a1)(hg:gd a0 a1):F (aj.r a0) (a1.map aa.row)=ret (md a0 a1):=by
 obtain ⟨H0,H1⟩:=hg
 unfold F md
 try simp only [SS]
 refine ct (Z73.aq H1) ?_
 refine ay ret (fun _=>rfl) (fun c1=>?_)
 have dc1:=c1
 try simp only [DC] at dc1
 try have tc1:=Z73.tr (by simpa using c1)
 refine ak (have:=(H1).1;dt) ?_
 refine ct (Z101.aq H0) ?_
 have fv2_:=Z101.fa a0 (((a1.getD 0 aa.zero).au).bz)
 refine ay ret (fun _=>rfl) (fun c2=>?_)
 have dc2:=c2
 try simp only [DC] at dc2
 refine ak dt ?_
 refine ak (have:=(H0.1).1;dt) ?_
 refine ct (Z103.aq ⟨(bO.getD (z:=[]) H0.1 (by first | assumption | omega | (simp (disch:=omega) only [wi];omega) | (simp;omega))),H1⟩) ?_
 refine ak dt ?_
 refine ak (have:=(H0.1).1;dt) ?_
 refine ct (Z103.aq ⟨H1,(bO.getD (z:=[]) H0.1 (by first | assumption | omega | (simp (disch:=omega) only [wi];omega) | (simp;omega)))⟩) ?_
 refine ay ret (fun c3=>?_) (fun c3=>?_)
 ·refine ay ret (fun _=>rfl) (fun c4=>?_)
  refine ay ret (fun _=>rfl) (fun c5=>?_)
  refine ay ret (fun _=>rfl) (fun _=>rfl)
 ·refine ay ret (fun _=>rfl) (fun c7=>?_)
  refine ay ret (fun _=>rfl) (fun _=>rfl)
def af:cG 124 aW:=W2 43 F mix aF bB (.cons Z73.af (.cons Z101.af (.cons Z103.af .nil))) Tryz.func124
def fa (a0:aj)(a1:List aa):(md a0 a1=3->1<=a1.length/\0<=Z101.md a0 (a1.getD 0 aa.zero).au.bz)/\(md a0 a1=5->1<=a1.length/\0<=Z101.md a0 (a1.getD 0 aa.zero).au.bz):=by
 unfold md
 cases h:Z73.md a1
 ·exact ⟨fun h=>by simp at h,fun h=>by simp at h⟩
 ·have t:=Z73.tr h
  cases hf:decide (Z101.md a0 ((a1.getD 0 aa.zero).au.bz)<0)
  ·have:=of_decide_eq_false hf
   exact ⟨fun _=>⟨t.1,by omega⟩,fun _=>⟨t.1,by omega⟩⟩
  ·exact ⟨fun h=>by simp at h,fun h=>by simp at h⟩
end Z104
end Go.DM
end
