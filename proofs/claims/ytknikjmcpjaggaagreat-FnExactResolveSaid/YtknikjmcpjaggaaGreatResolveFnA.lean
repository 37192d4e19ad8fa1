/- What the functions compute that the law reaches, and that the law returns true. Conditions: none. -/
import Derived.Test.YtknikjmcpjaggaaGreatResolveTy
import Derived.Test.YtknikjmcpjaggaaGreatProg
import Derived.Lib.AppendZerosOnto
import Derived.Lib.Bytealg
import Derived.Laws.Externs
import Derived.Lib.Walk
import Derived.Lib.Hide
import Derived.Lib.Strings
set_option linter.all false
set_option maxRecDepth 100000
noncomputable section
namespace Go.DM
open Go.Proofs
open Go.IntKind (i64)
open Int (toNat)
abbrev k7:List K:=[.int .i64,.int .i64,.bool,.int .u8]
abbrev f7:List Lf:=[fI,fI,fB,.rd (.int .u8)]
abbrev k8:List K:=[.int .i64,.int .i64,.bool,.int .u8]
abbrev f8:List Lf:=[fI,fI,fB,.rd (.int .u8)]
abbrev k13:List K:=[.str,.int .u64]
abbrev f13:List Lf:=[fS,.rd (.int .u64)]
abbrev k14:List K:=[.str,.int .u64]
abbrev f14:List Lf:=[fS,.rd (.int .u64)]
abbrev k24:List K:=[.sl 338,.sl 347]
abbrev f24:List Lf:=[.fr 338,.fr 347]
abbrev k25:List K:=[.sl 338,.sl 347]
abbrev f25:List Lf:=[.fr 338,.fr 347]
abbrev Cs:List K:=[.sl 92,.sl 280]
abbrev f36:List Lf:=[.fr 92,.fr 280]
abbrev tI:List K:=[.sl 92,.sl 280]
abbrev f37:List Lf:=[.fr 92,.fr 280]
abbrev Cr:List K:=[.sl 364]
abbrev f57:List Lf:=[.fr 364]
abbrev Co:List K:=[.sl 364]
abbrev f58:List Lf:=[.fr 364]
abbrev Ct:List K:=[.str,.int .i64,.int .i64,.sl 9]
abbrev f60:List Lf:=[fS,fI,fI,.fr 9]
abbrev ru:List K:=[.str,.int .i64,.int .i64,.sl 9]
abbrev f61:List Lf:=[fS,fI,fI,.fr 9]
abbrev Cn:List K:=[.sl 92,.sl 280,.int .i64,.str,.int .i64,.int .i64,.sl 9,.sl 3,.int .i64]
abbrev f63:List Lf:=[.fr 92,.fr 280,fI,fS,fI,fI,.fr 9,.fr 3,fI]
abbrev Bj:List K:=[.sl 92,.sl 280,.int .i64,.str,.int .i64,.int .i64,.sl 9,.sl 3,.int .i64]
abbrev f64:List Lf:=[.fr 92,.fr 280,fI,fS,fI,fI,.fr 9,.fr 3,fI]
abbrev Cq:List K:=[.sl 145]
abbrev f67:List Lf:=[.fr 145]
abbrev Ck:List K:=[.sl 145]
abbrev f68:List Lf:=[.fr 145]
abbrev Cp:List K:=[.sl 92,.sl 280,.int .i64,.str,.int .i64,.int .i64,.sl 9,.sl 3,.int .i64,.sl 145]
abbrev f84:List Lf:=[.fr 92,.fr 280,fI,fS,fI,fI,.fr 9,.fr 3,fI,.fr 145]
abbrev Cj:List K:=[.sl 92,.sl 280,.int .i64,.str,.int .i64,.int .i64,.sl 9,.sl 3,.int .i64,.sl 145]
abbrev f85:List Lf:=[.fr 92,.fr 280,fI,fS,fI,fI,.fr 9,.fr 3,fI,.fr 145]
abbrev Cl:List K:=[.sl 3,.int .i64]
abbrev f97:List Lf:=[.fr 3,fI]
abbrev qb:List K:=[.sl 3,.int .i64]
abbrev f98:List Lf:=[.fr 3,fI]
abbrev BS:List K:=[.int .i64,.int .i64,.int .i64,.int .i64,.int .i64,.int .i64,.int .i64,.int .i64,.sl 3,.int .i64,.sl 3,.int .i64,.int .i64,.sl 3,.int .i64,.bool]
abbrev f101:List Lf:=[fI,fI,fI,fI,fI,fI,fI,fI,.fr 3,fI,.fr 3,fI,fI,.fr 3,fI,fB]
abbrev fX:List K:=[.int .i64,.int .i64,.int .i64,.int .i64,.int .i64,.int .i64,.int .i64,.int .i64,.sl 3,.int .i64,.sl 3,.int .i64,.int .i64,.sl 3,.int .i64,.bool]
abbrev f102:List Lf:=[fI,fI,fI,fI,fI,fI,fI,fI,.fr 3,fI,.fr 3,fI,fI,.fr 3,fI,fB]
abbrev BV:List K:=[.int .i64,.sl 3,.int .i64,.int .i64]
abbrev f107:List Lf:=[fI,.fr 3,fI,fI]
abbrev BX:List K:=[.int .i64,.sl 3,.int .i64,.int .i64]
abbrev f108:List Lf:=[fI,.fr 3,fI,fI]
abbrev BZ:List K:=[.int .i64,.int .i64,.int .i64,.int .i64,.int .i64,.int .i64,.int .i64,.int .i64,.sl 3,.int .i64,.sl 3,.int .i64,.int .i64,.sl 3,.int .i64,.bool,.sl 428]
abbrev f122:List Lf:=[fI,fI,fI,fI,fI,fI,fI,fI,.fr 3,fI,.fr 3,fI,fI,.fr 3,fI,fB,.fr 428]
abbrev kH:List K:=[.int .i64,.int .i64,.int .i64,.int .i64,.int .i64,.int .i64,.int .i64,.int .i64,.sl 3,.int .i64,.sl 3,.int .i64,.int .i64,.sl 3,.int .i64,.bool,.sl 428]
abbrev f123:List Lf:=[fI,fI,fI,fI,fI,fI,fI,fI,.fr 3,fI,.fr 3,fI,fI,.fr 3,fI,fB,.fr 428]
abbrev B9:List K:=[.int .i64,.sl 3]
abbrev f127:List Lf:=[fI,.fr 3]
abbrev rm:List K:=[.int .i64,.sl 3]
abbrev f128:List Lf:=[fI,.fr 3]
abbrev BG:List K:=[.int .i64,.str,.int .i64,.int .i64,.sl 9,.str,.int .i64,.int .i64,.sl 9,.int .i64,.sl 3,.int .i64,.sl 3]
abbrev f129:List Lf:=[fI,fS,fI,fI,.fr 9,fS,fI,fI,.fr 9,fI,.fr 3,fI,.fr 3]
abbrev vC:List K:=[.int .i64,.str,.int .i64,.int .i64,.sl 9,.str,.int .i64,.int .i64,.sl 9,.int .i64,.sl 3,.int .i64,.sl 3]
abbrev f130:List Lf:=[fI,fS,fI,fI,.fr 9,fS,fI,fI,.fr 9,fI,.fr 3,fI,.fr 3]
abbrev BH:List K:=[.sl 123,.bool,.str,.int .i64,.int .i64,.sl 9,.int .i64,.sl 3,.int .i64,.str,.int .i64,.int .i64,.sl 9,.str,.int .i64,.int .i64,.sl 9,.int .i64,.sl 3,.int .i64,.sl 3]
abbrev f131:List Lf:=[.fr 123,fB,fS,fI,fI,.fr 9,fI,.fr 3,fI,fS,fI,fI,.fr 9,fS,fI,fI,.fr 9,fI,.fr 3,fI,.fr 3]
abbrev yw:List K:=[.sl 123,.bool,.str,.int .i64,.int .i64,.sl 9,.int .i64,.sl 3,.int .i64,.str,.int .i64,.int .i64,.sl 9,.str,.int .i64,.int .i64,.sl 9,.int .i64,.sl 3,.int .i64,.sl 3]
abbrev f132:List Lf:=[.fr 123,fB,fS,fI,fI,.fr 9,fI,.fr 3,fI,fS,fI,fI,.fr 9,fS,fI,fI,.fr 9,fI,.fr 3,fI,.fr 3]
abbrev Cb:List K:=[.int .i64,.str,.sl 123,.bool,.str,.int .i64,.int .i64,.sl 9,.int .i64,.sl 3,.int .i64,.str,.int .i64,.int .i64,.sl 9,.str,.int .i64,.int .i64,.sl 9,.int .i64,.sl 3,.int .i64,.sl 3]
abbrev f144:List Lf:=[fI,fS,.fr 123,fB,fS,fI,fI,.fr 9,fI,.fr 3,fI,fS,fI,fI,.fr 9,fS,fI,fI,.fr 9,fI,.fr 3,fI,.fr 3]
abbrev BL:List K:=[.int .i64,.str,.sl 123,.bool,.str,.int .i64,.int .i64,.sl 9,.int .i64,.sl 3,.int .i64,.str,.int .i64,.int .i64,.sl 9,.str,.int .i64,.int .i64,.sl 9,.int .i64,.sl 3,.int .i64,.sl 3]
abbrev f145:List Lf:=[fI,fS,.fr 123,fB,fS,fI,fI,.fr 9,fI,.fr 3,fI,fS,fI,fI,.fr 9,fS,fI,fI,.fr 9,fI,.fr 3,fI,.fr 3]
abbrev B4:List K:=[.int .i64,.str,.int .i64,.int .i64,.sl 9,.sl 61]
abbrev f150:List Lf:=[fI,fS,fI,fI,.fr 9,.fr 61]
abbrev Br:List K:=[.int .i64,.str,.int .i64,.int .i64,.sl 9,.sl 61]
abbrev f151:List Lf:=[fI,fS,fI,fI,.fr 9,.fr 61]
abbrev Cd:List K:=[.sl 92,.sl 280,.bool,.str,.int .i64,.int .i64,.sl 9,.bool,.sl 3]
abbrev f168:List Lf:=[.fr 92,.fr 280,fB,fS,fI,fI,.fr 9,fB,.fr 3]
abbrev Ag:List K:=[.sl 92,.sl 280,.bool,.str,.int .i64,.int .i64,.sl 9,.bool,.sl 3]
abbrev f169:List Lf:=[.fr 92,.fr 280,fB,fS,fI,fI,.fr 9,fB,.fr 3]
abbrev BT:List K:=[.str,.int .i64]
abbrev f206:List Lf:=[fS,fI]
abbrev Bx:List K:=[.str,.int .i64]
abbrev f207:List Lf:=[fS,fI]
abbrev Bo:List K:=[.sl 423,.int .i64]
abbrev f217:List Lf:=[.fr 423,fI]
abbrev Ar:List K:=[.sl 423,.int .i64]
abbrev f218:List Lf:=[.fr 423,fI]
abbrev B7:List K:=[.str,.int .i64]
abbrev f220:List Lf:=[fS,fI]
abbrev BF:List K:=[.str,.int .i64]
abbrev f222:List Lf:=[fS,fI]
abbrev B8:List K:=[.sl 293,.int .i64]
abbrev f226:List Lf:=[.fr 293,fI]
abbrev yM:List K:=[.sl 293,.int .i64]
abbrev f227:List Lf:=[.fr 293,fI]
abbrev B3:List K:=[.str,.int .i64]
abbrev f245:List Lf:=[fS,fI]
abbrev BJ:List K:=[.int .i64,.int .i64,.int .i64,.int .i64,.int .i64,.int .i64,.int .i64,.int .i64,.sl 3,.int .i64,.sl 3,.int .i64,.int .i64,.sl 3,.int .i64,.bool,.sl 428,.int .i64,.int .i64,.int .i64,.int .i64,.int .i64,.int .i64,.int .i64,.int .i64,.sl 3,.int .i64,.sl 3,.int .i64,.int .i64,.sl 3,.int .i64,.bool,.sl 428,.int .i64,.int .i64,.int .i64,.int .i64,.int .i64,.int .i64,.int .i64,.int .i64,.sl 3,.int .i64,.sl 3,.int .i64,.int .i64,.sl 3,.int .i64,.bool,.sl 428]
abbrev f279:List Lf:=[fI,fI,fI,fI,fI,fI,fI,fI,.fr 3,fI,.fr 3,fI,fI,.fr 3,fI,fB,.fr 428,fI,fI,fI,fI,fI,fI,fI,fI,.fr 3,fI,.fr 3,fI,fI,.fr 3,fI,fB,.fr 428,fI,fI,fI,fI,fI,fI,fI,fI,.fr 3,fI,.fr 3,fI,fI,.fr 3,fI,fB,.fr 428]
abbrev sQ:List K:=[.int .i64,.int .i64,.int .i64,.int .i64,.int .i64,.int .i64,.int .i64,.int .i64,.sl 3,.int .i64,.sl 3,.int .i64,.int .i64,.sl 3,.int .i64,.bool,.sl 428,.int .i64,.int .i64,.int .i64,.int .i64,.int .i64,.int .i64,.int .i64,.int .i64,.sl 3,.int .i64,.sl 3,.int .i64,.int .i64,.sl 3,.int .i64,.bool,.sl 428,.int .i64,.int .i64,.int .i64,.int .i64,.int .i64,.int .i64,.int .i64,.int .i64,.sl 3,.int .i64,.sl 3,.int .i64,.int .i64,.sl 3,.int .i64,.bool,.sl 428]
abbrev f280:List Lf:=[fI,fI,fI,fI,fI,fI,fI,fI,.fr 3,fI,.fr 3,fI,fI,.fr 3,fI,fB,.fr 428,fI,fI,fI,fI,fI,fI,fI,fI,.fr 3,fI,.fr 3,fI,fI,.fr 3,fI,fB,.fr 428,fI,fI,fI,fI,fI,fI,fI,fI,.fr 3,fI,.fr 3,fI,fI,.fr 3,fI,fB,.fr 428]
abbrev Bw:List K:=[.sl 123,.sl 61]
abbrev f292:List Lf:=[.fr 123,.fr 61]
abbrev sH:List K:=[.sl 123,.sl 61]
abbrev f293:List Lf:=[.fr 123,.fr 61]
abbrev BQ:List K:=[.sl 9,.str,.int .i64,.int .i64,.sl 9]
abbrev f317:List Lf:=[.fr 9,fS,fI,fI,.fr 9]
abbrev BA:List K:=[.sl 9,.str,.int .i64,.int .i64,.sl 9]
abbrev f318:List Lf:=[.fr 9,fS,fI,fI,.fr 9]
abbrev AE:List K:=[.sl 3,.int .i64]
abbrev f340:List Lf:=[.fr 3,fI]
abbrev BI:List K:=[.int .i64,.int .i64,.int .i64,.int .i64,.int .i64,.int .i64,.int .i64,.int .i64,.sl 3,.int .i64,.sl 3,.int .i64,.int .i64,.sl 3,.int .i64,.bool]
abbrev f341:List Lf:=[fI,fI,fI,fI,fI,fI,fI,fI,.fr 3,fI,.fr 3,fI,fI,.fr 3,fI,fB]
abbrev Ao:List K:=[.int .i64,.int .i64,.int .i64,.int .i64,.int .i64,.int .i64,.int .i64,.int .i64,.sl 3,.int .i64,.sl 3,.int .i64,.int .i64,.sl 3,.int .i64,.bool]
abbrev f342:List Lf:=[fI,fI,fI,fI,fI,fI,fI,fI,.fr 3,fI,.fr 3,fI,fI,.fr 3,fI,fB]
abbrev Bp:List K:=[.int .i64,.int .i64,.int .i64,.int .i64,.int .i64,.int .i64,.int .i64,.int .i64,.sl 3,.int .i64,.sl 3,.int .i64,.int .i64,.sl 3,.int .i64,.bool,.sl 516]
abbrev f344:List Lf:=[fI,fI,fI,fI,fI,fI,fI,fI,.fr 3,fI,.fr 3,fI,fI,.fr 3,fI,fB,.fr 516]
abbrev Ac:List K:=[.int .i64,.int .i64,.int .i64,.int .i64,.int .i64,.int .i64,.int .i64,.int .i64,.sl 3,.int .i64,.sl 3,.int .i64,.int .i64,.sl 3,.int .i64,.bool,.sl 516]
abbrev f345:List Lf:=[fI,fI,fI,fI,fI,fI,fI,fI,.fr 3,fI,.fr 3,fI,fI,.fr 3,fI,fB,.fr 516]
abbrev B6:List K:=[.int .i64,.int .i64,.int .i64,.int .i64,.int .i64,.int .i64,.int .i64,.int .i64,.sl 3,.int .i64,.sl 3,.int .i64,.int .i64,.sl 3,.int .i64,.bool,.sl 516,.int .i64,.int .i64,.int .i64,.int .i64,.int .i64,.int .i64,.int .i64,.int .i64,.sl 3,.int .i64,.sl 3,.int .i64,.int .i64,.sl 3,.int .i64,.bool,.sl 516,.int .i64,.int .i64,.int .i64,.int .i64,.int .i64,.int .i64,.int .i64,.int .i64,.sl 3,.int .i64,.sl 3,.int .i64,.int .i64,.sl 3,.int .i64,.bool,.sl 516]
abbrev f346:List Lf:=[fI,fI,fI,fI,fI,fI,fI,fI,.fr 3,fI,.fr 3,fI,fI,.fr 3,fI,fB,.fr 516,fI,fI,fI,fI,fI,fI,fI,fI,.fr 3,fI,.fr 3,fI,fI,.fr 3,fI,fB,.fr 516,fI,fI,fI,fI,fI,fI,fI,fI,.fr 3,fI,.fr 3,fI,fI,.fr 3,fI,fB,.fr 516]
abbrev AH:List K:=[.int .i64,.int .i64,.int .i64,.int .i64,.int .i64,.int .i64,.int .i64,.int .i64,.sl 3,.int .i64,.sl 3,.int .i64,.int .i64,.sl 3,.int .i64,.bool,.sl 516,.int .i64,.int .i64,.int .i64,.int .i64,.int .i64,.int .i64,.int .i64,.int .i64,.sl 3,.int .i64,.sl 3,.int .i64,.int .i64,.sl 3,.int .i64,.bool,.sl 516,.int .i64,.int .i64,.int .i64,.int .i64,.int .i64,.int .i64,.int .i64,.int .i64,.sl 3,.int .i64,.sl 3,.int .i64,.int .i64,.sl 3,.int .i64,.bool,.sl 516]
abbrev f347:List Lf:=[fI,fI,fI,fI,fI,fI,fI,fI,.fr 3,fI,.fr 3,fI,fI,.fr 3,fI,fB,.fr 516,fI,fI,fI,fI,fI,fI,fI,fI,.fr 3,fI,.fr 3,fI,fI,.fr 3,fI,fB,.fr 516,fI,fI,fI,fI,fI,fI,fI,fI,.fr 3,fI,.fr 3,fI,fI,.fr 3,fI,fB,.fr 516]
abbrev Ab:List K:=[.str,.int .i64,.int .i64,.sl 9]
abbrev f357:List Lf:=[fS,fI,fI,.fr 9]
abbrev BN:List K:=[.int .i64,.sl 3]
abbrev f358:List Lf:=[fI,.fr 3]
abbrev BU:List K:=[.int .i64,.str,.int .i64,.int .i64,.sl 9,.str,.int .i64,.int .i64,.sl 9,.int .i64,.sl 3,.int .i64,.sl 3]
abbrev f359:List Lf:=[fI,fS,fI,fI,.fr 9,fS,fI,fI,.fr 9,fI,.fr 3,fI,.fr 3]
abbrev BD:List K:=[.int .i64,.str,.int .i64,.int .i64,.sl 9,.str,.int .i64,.int .i64,.sl 9,.int .i64,.sl 3,.int .i64,.sl 3]
abbrev f360:List Lf:=[fI,fS,fI,fI,.fr 9,fS,fI,fI,.fr 9,fI,.fr 3,fI,.fr 3]
abbrev B1:List K:=[.sl 345,.bool,.str,.int .i64,.int .i64,.sl 9,.int .i64,.sl 3,.int .i64,.str,.int .i64,.int .i64,.sl 9,.str,.int .i64,.int .i64,.sl 9,.int .i64,.sl 3,.int .i64,.sl 3]
abbrev f361:List Lf:=[.fr 345,fB,fS,fI,fI,.fr 9,fI,.fr 3,fI,fS,fI,fI,.fr 9,fS,fI,fI,.fr 9,fI,.fr 3,fI,.fr 3]
abbrev BB:List K:=[.sl 345,.bool,.str,.int .i64,.int .i64,.sl 9,.int .i64,.sl 3,.int .i64,.str,.int .i64,.int .i64,.sl 9,.str,.int .i64,.int .i64,.sl 9,.int .i64,.sl 3,.int .i64,.sl 3]
abbrev f362:List Lf:=[.fr 345,fB,fS,fI,fI,.fr 9,fI,.fr 3,fI,fS,fI,fI,.fr 9,fS,fI,fI,.fr 9,fI,.fr 3,fI,.fr 3]
abbrev B2:List K:=[.int .i64,.str,.sl 345,.bool,.str,.int .i64,.int .i64,.sl 9,.int .i64,.sl 3,.int .i64,.str,.int .i64,.int .i64,.sl 9,.str,.int .i64,.int .i64,.sl 9,.int .i64,.sl 3,.int .i64,.sl 3]
abbrev f363:List Lf:=[fI,fS,.fr 345,fB,fS,fI,fI,.fr 9,fI,.fr 3,fI,fS,fI,fI,.fr 9,fS,fI,fI,.fr 9,fI,.fr 3,fI,.fr 3]
abbrev BP:List K:=[.int .i64,.str,.sl 345,.bool,.str,.int .i64,.int .i64,.sl 9,.int .i64,.sl 3,.int .i64,.str,.int .i64,.int .i64,.sl 9,.str,.int .i64,.int .i64,.sl 9,.int .i64,.sl 3,.int .i64,.sl 3]
abbrev f364:List Lf:=[fI,fS,.fr 345,fB,fS,fI,fI,.fr 9,fI,.fr 3,fI,fS,fI,fI,.fr 9,fS,fI,fI,.fr 9,fI,.fr 3,fI,.fr 3]
abbrev BM:List K:=[.sl 5,.int .i64,.int .i64]
abbrev f375:List Lf:=[.fr 5,fI,fI]
abbrev Bt:List K:=[.sl 5,.int .i64,.int .i64]
abbrev f376:List Lf:=[.fr 5,fI,fI]
abbrev B5:List K:=[.sl 345,.sl 357]
abbrev f422:List Lf:=[.fr 345,.fr 357]
abbrev Aj:List K:=[.sl 345,.sl 357]
abbrev f423:List Lf:=[.fr 345,.fr 357]
abbrev Cc:List K:=[.int .i64,.int .i64]
abbrev f427:List Lf:=[fI,fI]
abbrev yI:List K:=[.int .i64,.int .i64]
abbrev f428:List Lf:=[fI,fI]
abbrev Bs:List K:=[.int .i32,.int .u32]
abbrev f487:List Lf:=[.rd (.int .i32),.rd (.int .u32)]
abbrev Bv:List K:=[.int .i32,.int .u32]
abbrev f488:List Lf:=[.rd (.int .i32),.rd (.int .u32)]
abbrev AW:List K:=[.int .i64,.int .i64]
abbrev f516:List Lf:=[fI,fI]
def kQ:List (Nat×TI):=[
 (2,⟨[.int .i64],false,[],8,false⟩),
 (3,⟨[.int .i64],false,[],8,false⟩),
 (4,⟨[.bool],false,[],1,false⟩),
 (5,⟨[.int .u8],false,[],1,false⟩),
 (6,⟨[.int .u8],false,[],1,false⟩),
 (7,⟨k7,true,[(0,2),(1,3),(2,4),(3,6)],24,false⟩),
 (8,⟨k8,true,[(0,2),(1,3),(2,4),(3,6)],24,false⟩),
 (9,⟨[.str],false,[],16,false⟩),
 (10,⟨[.str],false,[],16,false⟩),
 (11,⟨[.str],false,[],16,false⟩),
 (12,⟨[.int .u64],false,[],8,false⟩),
 (13,⟨k13,true,[(0,9),(1,12)],24,false⟩),
 (14,⟨k14,true,[(0,9),(1,12)],24,false⟩),
 (21,⟨[.int .i32],false,[],4,false⟩),
 (22,⟨[.sl 338],false,[],24,false⟩),
 (23,⟨[.sl 347],false,[],24,false⟩),
 (24,⟨k24,true,[(0,22),(1,23)],48,false⟩),
 (25,⟨k25,true,[(0,22),(1,23)],48,false⟩),
 (26,⟨[.sl 218],false,[],24,false⟩),
 (27,⟨[.sl 220],false,[],24,false⟩),
 (28,⟨[.sl 9],false,[],24,false⟩),
 (33,⟨[.sl 64],false,[],24,false⟩),
 (34,⟨[.sl 92],false,[],24,false⟩),
 (35,⟨[.sl 280],false,[],24,false⟩),
 (36,⟨Cs,true,[(0,34),(1,35)],48,false⟩),
 (37,⟨tI,true,[(0,34),(1,35)],48,false⟩),
 (41,⟨[.sl 227],false,[],24,false⟩),
 (43,⟨[.sl 222],false,[],24,false⟩),
 (56,⟨[.sl 364],false,[],24,false⟩),
 (57,⟨Cr,true,[(0,56)],24,false⟩),
 (58,⟨Co,true,[(0,56)],24,false⟩),
 (60,⟨Ct,true,[(0,9),(1,3),(2,3),(3,28)],56,false⟩),
 (61,⟨ru,true,[(0,9),(1,3),(2,3),(3,28)],56,false⟩),
 (62,⟨[.sl 3],false,[],24,false⟩),
 (63,⟨Cn,true,[(0,37),(2,3),(3,61),(7,62),(8,3)],144,false⟩),
 (64,⟨Bj,true,[(0,37),(2,3),(3,61),(7,62),(8,3)],144,false⟩),
 (66,⟨[.sl 145],false,[],24,false⟩),
 (67,⟨Cq,true,[(0,66)],24,false⟩),
 (68,⟨Ck,true,[(0,66)],24,false⟩),
 (75,⟨[.sl 245],false,[],24,false⟩),
 (77,⟨[.sl 207],false,[],24,false⟩),
 (84,⟨Cp,true,[(0,64),(9,68)],168,false⟩),
 (85,⟨Cj,true,[(0,64),(9,68)],168,false⟩),
 (90,⟨[.sl 5],false,[],24,false⟩),
 (92,⟨[.sl 123],false,[],24,false⟩),
 (95,⟨[.sl 108],false,[],24,false⟩),
 (97,⟨Cl,true,[(0,62),(1,3)],32,false⟩),
 (98,⟨qb,true,[(0,62),(1,3)],32,false⟩),
 (101,⟨BS,true,[(0,3),(1,3),(2,3),(3,3),(4,3),(5,3),(6,3),(7,3),(8,98),(10,98),(12,3),(13,98),(15,4)],176,false⟩),
 (102,⟨fX,true,[(0,3),(1,3),(2,3),(3,3),(4,3),(5,3),(6,3),(7,3),(8,98),(10,98),(12,3),(13,98),(15,4)],176,false⟩),
 (107,⟨BV,true,[(0,3),(1,98),(3,3)],48,false⟩),
 (108,⟨BX,true,[(0,3),(1,98),(3,3)],48,false⟩),
 (121,⟨[.sl 428],false,[],24,false⟩),
 (122,⟨BZ,true,[(0,102),(16,121)],200,false⟩),
 (123,⟨kH,true,[(0,102),(16,121)],200,false⟩),
 (127,⟨B9,true,[(0,3),(1,62)],32,false⟩),
 (128,⟨rm,true,[(0,3),(1,62)],32,false⟩),
 (129,⟨BG,true,[(0,3),(1,61),(5,61),(9,128),(11,128)],184,false⟩),
 (130,⟨vC,true,[(0,3),(1,61),(5,61),(9,128),(11,128)],184,false⟩),
 (131,⟨BH,true,[(0,92),(1,4),(2,61),(6,128),(8,130)],304,false⟩),
 (132,⟨yw,true,[(0,92),(1,4),(2,61),(6,128),(8,130)],304,false⟩),
 (144,⟨Cb,true,[(0,3),(1,9),(2,132)],328,false⟩),
 (145,⟨BL,true,[(0,3),(1,9),(2,132)],328,false⟩),
 (146,⟨[.sl 318],false,[],24,false⟩),
 (149,⟨[.sl 61],false,[],24,false⟩),
 (150,⟨B4,true,[(0,3),(1,61),(5,149)],88,false⟩),
 (151,⟨Br,true,[(0,3),(1,61),(5,149)],88,false⟩),
 (165,⟨[.sl 132],false,[],24,false⟩),
 (168,⟨Cd,true,[(0,37),(2,4),(3,61),(7,4),(8,62)],144,false⟩),
 (169,⟨Ag,true,[(0,37),(2,4),(3,61),(7,4),(8,62)],144,false⟩),
 (186,⟨[.sl 62],false,[],24,false⟩),
 (206,⟨BT,true,[(0,9),(1,3)],24,false⟩),
 (207,⟨Bx,true,[(0,9),(1,3)],24,true⟩),
 (216,⟨[.sl 423],false,[],24,false⟩),
 (217,⟨Bo,true,[(0,216),(1,3)],32,false⟩),
 (218,⟨Ar,true,[(0,216),(1,3)],32,false⟩),
 (220,⟨B7,true,[(0,9),(1,3)],24,true⟩),
 (222,⟨BF,true,[(0,9),(1,3)],24,true⟩),
 (225,⟨[.sl 293],false,[],24,false⟩),
 (226,⟨B8,true,[(0,225),(1,3)],32,false⟩),
 (227,⟨yM,true,[(0,225),(1,3)],32,false⟩),
 (245,⟨B3,true,[(0,9),(1,3)],24,true⟩),
 (279,⟨BJ,true,[(0,123),(17,123),(34,123)],600,false⟩),
 (280,⟨sQ,true,[(0,123),(17,123),(34,123)],600,false⟩),
 (292,⟨Bw,true,[(0,92),(1,149)],48,false⟩),
 (293,⟨sH,true,[(0,92),(1,149)],48,false⟩),
 (317,⟨BQ,true,[(0,28),(1,61)],80,false⟩),
 (318,⟨BA,true,[(0,28),(1,61)],80,false⟩),
 (338,⟨[.sl 345],false,[],24,false⟩),
 (340,⟨AE,true,[(0,62),(1,3)],32,false⟩),
 (341,⟨BI,true,[(0,3),(1,3),(2,3),(3,3),(4,3),(5,3),(6,3),(7,3),(8,340),(10,340),(12,3),(13,340),(15,4)],176,false⟩),
 (342,⟨Ao,true,[(0,3),(1,3),(2,3),(3,3),(4,3),(5,3),(6,3),(7,3),(8,340),(10,340),(12,3),(13,340),(15,4)],176,false⟩),
 (343,⟨[.sl 516],false,[],24,false⟩),
 (344,⟨Bp,true,[(0,342),(16,343)],200,false⟩),
 (345,⟨Ac,true,[(0,342),(16,343)],200,false⟩),
 (346,⟨B6,true,[(0,345),(17,345),(34,345)],600,false⟩),
 (347,⟨AH,true,[(0,345),(17,345),(34,345)],600,false⟩),
 (357,⟨Ab,true,[(0,9),(1,3),(2,3),(3,28)],56,false⟩),
 (358,⟨BN,true,[(0,3),(1,62)],32,false⟩),
 (359,⟨BU,true,[(0,3),(1,357),(5,357),(9,358),(11,358)],184,false⟩),
 (360,⟨BD,true,[(0,3),(1,357),(5,357),(9,358),(11,358)],184,false⟩),
 (361,⟨B1,true,[(0,338),(1,4),(2,357),(6,358),(8,360)],304,false⟩),
 (362,⟨BB,true,[(0,338),(1,4),(2,357),(6,358),(8,360)],304,false⟩),
 (363,⟨B2,true,[(0,3),(1,9),(2,362)],328,false⟩),
 (364,⟨BP,true,[(0,3),(1,9),(2,362)],328,false⟩),
 (375,⟨BM,true,[(0,90),(1,3),(2,3)],40,false⟩),
 (376,⟨Bt,true,[(0,90),(1,3),(2,3)],40,false⟩),
 (421,⟨[.sl 357],false,[],24,false⟩),
 (422,⟨B5,true,[(0,338),(1,421)],48,false⟩),
 (423,⟨Aj,true,[(0,338),(1,421)],48,false⟩),
 (427,⟨Cc,true,[(0,3),(1,3)],16,false⟩),
 (428,⟨yI,true,[(0,3),(1,3)],16,true⟩),
 (445,⟨[.int .u64],false,[],8,false⟩),
 (484,⟨[.int .u32],false,[],4,false⟩),
 (487,⟨Bs,true,[(0,21),(1,484)],8,false⟩),
 (488,⟨Bv,true,[(0,21),(1,484)],8,false⟩),
 (516,⟨AW,true,[(0,3),(1,3)],16,true⟩),
 (579,⟨[.int .u8],false,[],1,false⟩),
 (580,⟨[.int .u8],false,[],1,false⟩),
 (583,⟨[.int .i32],false,[],4,false⟩),
 (584,⟨[.int .i32],false,[],4,false⟩),
 (600,⟨[.sl 5],false,[],24,false⟩)]
abbrev Ev:Env:=dF kQ
theorem aD:eM Tryz.prog kQ=true:=by kernel_rfl
theorem mix:Tryz.prog.follows .mixedOrders=true:=by kernel_rfl
abbrev cw:=Valid Tryz.prog Ev
namespace Z0
def F (x0:List (List L))(x1:Int):aG:=(cond (decide ((i64.wrap (x1 - (x0.length:Int)))<0)) (ret ((-1):Int)) (ret ((i64.wrap (x1 - (x0.length:Int))):Int)))
def md (a0:List Int)(a1:Int):Int:=jf (dQ (fun y:Int=>0) a0) a1
def gd (a0:List Int)(a1:Int):Prop:=(bK maxLen (fun y:Int=>True) a0)∧0≤a1∧a1≤1048576
def R:=RR (p2 gd) (u2 md)
theorem aj {a0 a1}(h:gd a0 a1):R ((a0.map aZ),a1)=some (md a0 a1):=aM (a:=(a0,a1)) h
def aV:=CN [pL 3,pI] oI RT.dec R
theorem bq (a0)(a1)(hg:gd a0 a1):F (a0.map aZ) a1=ret (md a0 a1):=by
 obtain ⟨hs,g0,g1⟩:=hg
 unfold F md
 rw [List.length_map,nU g0 g1 hs.1]
 have e:dQ (fun y:Int=>0) a0=a0.length:=by
  unfold dQ
  have :(a0.map (fun y:Int=>0)).sum=0:=qA (fun _=>rfl) a0
  omega
 rw [e]
 by_cases hc:a1<((a0.length:Nat):Int)
 ·rw [cP hc,decide_eq_true (by omega)];rfl
 ·rw [dA hc,decide_eq_false (by omega)];rfl
theorem af:cw 555 aV:=W2 12 F mix aD bq .nil Tryz.func555
end Z0
namespace Z1
def F (x0:bu)(x1:Int):aG:=(call (Z0.R (x0.aT,x1)) fun v1=>(cond (decide (v1<0)) (ret ((-1):Int)) (ret (v1:Int))))
def md (a0:aJ)(a1:Int):Int:=jf (aJ.size a0) a1
def gd (a0:aJ)(a1:Int):Prop:=(aJ.Sm maxLen a0)∧0≤a1∧a1≤1048576
def R:=RR (p2 gd) (u2 md)
theorem aj {a0 a1}(h:gd a0 a1):R ((aJ.r a0),a1)=some (md a0 a1):=aM (a:=(a0,a1)) h
def aV:=CN [.agg AE,pI] oI RT.dec R
theorem bq (a0)(a1)(hg:gd a0 a1):F (aJ.r a0) a1=ret (md a0 a1):=by
 obtain ⟨hs,g0,g1⟩:=hg
 unfold md
 show (call (Z0.R ((a0.aT.map aZ),a1)) fun v1=>(cond (decide (v1<0)) (ret ((-1):Int)) (ret (v1:Int))))=_
 rw [call_eq (Z0.aj (a1:=a1) ⟨hs,by omega,by omega⟩)]
 unfold Z0.md
 by_cases c0:a1<((dQ (fun y:Int=>0) a0.aT:Nat):Int)
 ·rw [cP c0];rw [show jf (aJ.size a0) a1=-1 from cP (by unfold aJ.size;omega)];try rfl
 rw [dA c0,dn (by omega),bk]
 rw [show jf (aJ.size a0) a1=a1 - ((dQ (fun y:Int=>0) a0.aT:Nat):Int) from by rw [dA (by unfold aJ.size;omega)];unfold aJ.size;omega]
theorem af:cw 550 aV:=W2 12 F mix aD bq (.cons Z0.af .nil) Tryz.func550
end Z1
namespace Z2
def F (x0:bU)(x1:Int):aG:=(call (Z1.R (x0.bJ,x1)) fun v1=>(cond (decide (v1<0)) (ret ((-1):Int)) (call (Z1.R (x0.bw,v1)) fun v2=>(cond (decide (v2<0)) (ret ((-1):Int)) (call (Z1.R (x0.bp,v2)) fun v3=>(cond (decide (v3<0)) (ret ((-1):Int)) (ret (v3:Int))))))))
def md (a0:aC)(a1:Int):Int:=jf (aC.size a0) a1
def gd (a0:aC)(a1:Int):Prop:=(aC.Sm maxLen a0)∧0≤a1∧a1≤1048576
def R:=RR (p2 gd) (u2 md)
theorem aj {a0 a1}(h:gd a0 a1):R ((aC.r a0),a1)=some (md a0 a1):=aM (a:=(a0,a1)) h
def aV:=CN [.agg Ao,pI] oI RT.dec R
theorem bq (a0)(a1)(hg:gd a0 a1):F (aC.r a0) a1=ret (md a0 a1):=by
 obtain ⟨hs,g0,g1⟩:=hg
 unfold md
 show (call (Z1.R ((aJ.r a0.bJ),a1)) fun v1=>(bif (decide (v1<0)) then ret ((-1):Int) else (call (Z1.R ((aJ.r a0.bw),v1)) fun v2=>(bif (decide (v2<0)) then ret ((-1):Int) else (call (Z1.R ((aJ.r a0.bp),v2)) fun v3=>(cond (decide (v3<0)) (ret ((-1):Int)) (ret (v3:Int))))))))=_
 rw [call_eq (Z1.aj (a1:=a1) ⟨hs.1,by omega,by omega⟩)]
 unfold Z1.md
 by_cases c0:a1<((aJ.size a0.bJ:Nat):Int)
 ·rw [cP c0];rw [show jf (aC.size a0) a1=-1 from cP (by unfold aC.size;omega)];try rfl
 rw [dA c0,dn (by omega),bk]
 rw [call_eq (Z1.aj (a1:=(a1 - ((aJ.size a0.bJ:Nat):Int))) ⟨hs.2.1,by omega,by omega⟩)]
 unfold Z1.md
 by_cases c1:(a1 - ((aJ.size a0.bJ:Nat):Int))<((aJ.size a0.bw:Nat):Int)
 ·rw [cP c1];rw [show jf (aC.size a0) a1=-1 from cP (by unfold aC.size;omega)];try rfl
 rw [dA c1,dn (by omega),bk]
 rw [call_eq (Z1.aj (a1:=(a1 - ((aJ.size a0.bJ:Nat):Int) - ((aJ.size a0.bw:Nat):Int))) ⟨hs.2.2,by omega,by omega⟩)]
 unfold Z1.md
 by_cases c2:(a1 - ((aJ.size a0.bJ:Nat):Int) - ((aJ.size a0.bw:Nat):Int))<((aJ.size a0.bp:Nat):Int)
 ·rw [cP c2];rw [show jf (aC.size a0) a1=-1 from cP (by unfold aC.size;omega)];try rfl
 rw [dA c2,dn (by omega),bk]
 rw [show jf (aC.size a0) a1=a1 - ((aJ.size a0.bJ:Nat):Int) - ((aJ.size a0.bw:Nat):Int) - ((aJ.size a0.bp:Nat):Int) from by rw [dA (by unfold aC.size;omega)];unfold aC.size;omega]
theorem af:cw 486 aV:=W2 24 F mix aD bq (.cons Z1.af .nil) Tryz.func486
end Z2
namespace Z3
def F (x0:List (List L))(x1:Int):aG:=(cond (decide ((i64.wrap (x1 - (x0.length:Int)))<0)) (ret ((-1):Int)) (ret ((i64.wrap (x1 - (x0.length:Int))):Int)))
def md (a0:List aY)(a1:Int):Int:=jf (dQ (fun y:aY=>aY.size y) a0) a1
def gd (a0:List aY)(a1:Int):Prop:=(bK maxLen (fun y:aY=>aY.Sm maxLen y) a0)∧0≤a1∧a1≤1048576
def R:=RR (p2 gd) (u2 md)
theorem aj {a0 a1}(h:gd a0 a1):R ((a0.map aY.row),a1)=some (md a0 a1):=aM (a:=(a0,a1)) h
def aV:=CN [pL 516,pI] oI RT.dec R
theorem bq (a0)(a1)(hg:gd a0 a1):F (a0.map aY.row) a1=ret (md a0 a1):=by
 obtain ⟨hs,g0,g1⟩:=hg
 unfold F md
 rw [List.length_map,nU g0 g1 hs.1]
 have e:dQ (fun y:aY=>aY.size y) a0=a0.length:=by
  unfold dQ
  have :(a0.map (fun y:aY=>aY.size y)).sum=0:=qA (fun _=>rfl) a0
  omega
 rw [e]
 by_cases hc:a1<((a0.length:Nat):Int)
 ·rw [cP hc,decide_eq_true (by omega)];rfl
 ·rw [dA hc,decide_eq_false (by omega)];rfl
theorem af:cw 487 aV:=W2 12 F mix aD bq .nil Tryz.func487
end Z3
namespace Z4
def F (x0:aO)(x1:Int):aG:=(call (Z2.R (x0.aq,x1)) fun v1=>(cond (decide (v1<0)) (ret ((-1):Int)) (call (Z3.R (x0.bW,v1)) fun v2=>(cond (decide (v2<0)) (ret ((-1):Int)) (ret (v2:Int))))))
def md (a0:aa)(a1:Int):Int:=jf (aa.size a0) a1
def gd (a0:aa)(a1:Int):Prop:=(aa.Sm maxLen a0)∧0≤a1∧a1≤1048576
def R:=RR (p2 gd) (u2 md)
theorem aj {a0 a1}(h:gd a0 a1):R ((aa.r a0),a1)=some (md a0 a1):=aM (a:=(a0,a1)) h
def aV:=CN [.agg Ac,pI] oI RT.dec R
theorem bq (a0)(a1)(hg:gd a0 a1):F (aa.r a0) a1=ret (md a0 a1):=by
 obtain ⟨hs,g0,g1⟩:=hg
 unfold md
 show (call (Z2.R ((aC.r a0.aq),a1)) fun v1=>(bif (decide (v1<0)) then ret ((-1):Int) else (call (Z3.R ((a0.bW.map aY.row),v1)) fun v2=>(cond (decide (v2<0)) (ret ((-1):Int)) (ret (v2:Int))))))=_
 rw [call_eq (Z2.aj (a1:=a1) ⟨hs.1,by omega,by omega⟩)]
 unfold Z2.md
 by_cases c0:a1<((aC.size a0.aq:Nat):Int)
 ·rw [cP c0];rw [show jf (aa.size a0) a1=-1 from cP (by unfold aa.size;omega)];try rfl
 rw [dA c0,dn (by omega),bk]
 rw [call_eq (Z3.aj (a1:=(a1 - ((aC.size a0.aq:Nat):Int))) ⟨hs.2,by omega,by omega⟩)]
 unfold Z3.md
 by_cases c1:(a1 - ((aC.size a0.aq:Nat):Int))<((dQ (fun y:aY=>aY.size y) a0.bW:Nat):Int)
 ·rw [cP c1];rw [show jf (aa.size a0) a1=-1 from cP (by unfold aa.size;omega)];try rfl
 rw [dA c1,dn (by omega),bk]
 rw [show jf (aa.size a0) a1=a1 - ((aC.size a0.aq:Nat):Int) - ((dQ (fun y:aY=>aY.size y) a0.bW:Nat):Int) from by rw [dA (by unfold aa.size;omega)];unfold aa.size;omega]
theorem af:cw 422 aV:=W2 18 F mix aD bq (.cons Z2.af (.cons Z3.af .nil)) Tryz.func422
end Z4
namespace Z5
inductive Pt where
 | p0 (a:List (List L)) (b:Int) (c:Int)
def pid:Pt→Nat
 | .p0 ..=>5
def bY:Pt→List V
 | .p0 a b c=>[.sl none 345 a,.int .i64 b,.int .i64 c]
def bZ:Pt→List aU
 | .p0 a b c=>[]
def step (J:Pt→aG):Pt→aG
 | .p0 a b c=>(cond (decide (c<(a.length:Int))) (m2 c (a.length:Int) (call (Z4.R ((aO.at a (toNat c)),b)) fun v1=>(cond (decide (v1<0)) (ret ((-1):Int)) (J (.p0 a v1 (i64.wrap (c+1))))))) (ret (b:Int)))
def start (J:Pt→aG)(x0:List (List L))(x1:Int):aG:=(cond (decide ((i64.wrap (x1 - (x0.length:Int)))<0)) (ret ((-1):Int)) (J (.p0 x0 (i64.wrap (x1 - (x0.length:Int))) 0)))
def live:Nat→Live:=fun i=>match i with | 5=>[(0,none),(1,none),(5,none)] | _=>[]
def md (a0:List aa)(a1:Int):Int:=jf (dQ (fun y:aa=>aa.size y) a0) a1
def gd (a0:List aa)(a1:Int):Prop:=(bK maxLen (fun y:aa=>aa.Sm maxLen y) a0)∧0≤a1∧a1≤1048576
def R:=RR (p2 gd) (u2 md)
theorem aj {a0 a1}(h:gd a0 a1):R ((a0.map aa.row),a1)=some (md a0 a1):=aM (a:=(a0,a1)) h
def aV:=CN [pL 345,pI] oI RT.dec R
theorem bq (a0)(a1)(hg:gd a0 a1):∃n,start (iter step n) (a0.map aa.row) a1=ret (md a0 a1):=by
 obtain ⟨hs,g0,g1⟩:=hg
 unfold start md
 simp only [List.length_map]
 refine kC (pt:=fun left i=>Pt.p0 (a0.map aa.row) left (i:Int)) (f:=fun y:aa=>aa.size y) hs.1 (fun J i h left p0 p1=>?_) (fun J left=>?_) g0 g1
 ·simp only [step,MM,List.length_map,aL h,aH,bf,cF,aa.eH h]
  rw [call_eq (Z4.aj ⟨hs.get h,p0,p1⟩),aE h hs.1]
  unfold Z4.md
  by_cases hc:left<((aa.size (a0[i]):Nat):Int)
  ·rw [cP hc,if_pos hc];rfl
  ·rw [dA hc,if_neg hc,dn (by omega)];rfl
 ·simp only [step,List.length_map,ef,bk]
theorem af:cw 320 aV:=L2 27 pid bY bZ live step start mix aD bq (.cons Z4.af .nil) Tryz.func320
end Z5
namespace Z6
inductive Pt where
 | p0 (a:List (List L)) (b:Int) (c:Int)
def pid:Pt→Nat
 | .p0 ..=>5
def bY:Pt→List V
 | .p0 a b c=>[.sl none 338 a,.int .i64 b,.int .i64 c]
def bZ:Pt→List aU
 | .p0 a b c=>[]
def step (J:Pt→aG):Pt→aG
 | .p0 a b c=>(cond (decide (c<(a.length:Int))) (m2 c (a.length:Int) (call (Z5.R ((oO a (toNat c)),b)) fun v1=>(cond (decide (v1<0)) (ret ((-1):Int)) (J (.p0 a v1 (i64.wrap (c+1))))))) (ret (b:Int)))
def start (J:Pt→aG)(x0:List (List L))(x1:Int):aG:=(cond (decide ((i64.wrap (x1 - (x0.length:Int)))<0)) (ret ((-1):Int)) (J (.p0 x0 (i64.wrap (x1 - (x0.length:Int))) 0)))
def live:Nat→Live:=fun i=>match i with | 5=>[(0,none),(1,none),(5,none)] | _=>[]
def md (a0:List (List aa))(a1:Int):Int:=jf (dQ (fun y:List aa=>dQ (fun y:aa=>aa.size y) y) a0) a1
def gd (a0:List (List aa))(a1:Int):Prop:=(bK maxLen (fun y:List aa=>bK maxLen (fun y:aa=>aa.Sm maxLen y) y) a0)∧0≤a1∧a1≤1048576
def R:=RR (p2 gd) (u2 md)
theorem aj {a0 a1}(h:gd a0 a1):R ((a0.map (dK aa.row)),a1)=some (md a0 a1):=aM (a:=(a0,a1)) h
def aV:=CN [pL 338,pI] oI RT.dec R
theorem bq (a0)(a1)(hg:gd a0 a1):∃n,start (iter step n) (a0.map (dK aa.row)) a1=ret (md a0 a1):=by
 obtain ⟨hs,g0,g1⟩:=hg
 unfold start md
 simp only [List.length_map]
 refine kC (pt:=fun left i=>Pt.p0 (a0.map (dK aa.row)) left (i:Int)) (f:=fun y:List aa=>dQ (fun y:aa=>aa.size y) y) hs.1 (fun J i h left p0 p1=>?_) (fun J left=>?_) g0 g1
 ·simp only [step,MM,List.length_map,aL h,aH,bf,cF,pY h]
  rw [call_eq (Z5.aj ⟨hs.get h,p0,p1⟩),aE h hs.1]
  unfold Z5.md
  by_cases hc:left<((dQ (fun y:aa=>aa.size y) (a0[i]):Nat):Int)
  ·rw [cP hc,if_pos hc];rfl
  ·rw [dA hc,if_neg hc,dn (by omega)];rfl
 ·simp only [step,List.length_map,ef,bk]
theorem af:cw 161 aV:=L2 27 pid bY bZ live step start mix aD bq (.cons Z5.af .nil) Tryz.func161
end Z6
namespace Z7
def F (x0:bF)(x1:Int):aG:=(call (Z4.R (x0.aP,x1)) fun v1=>(cond (decide (v1<0)) (ret ((-1):Int)) (call (Z4.R (x0.fA,v1)) fun v2=>(cond (decide (v2<0)) (ret ((-1):Int)) (call (Z4.R (x0.fB,v2)) fun v3=>(cond (decide (v3<0)) (ret ((-1):Int)) (ret (v3:Int))))))))
def md (a0:aB)(a1:Int):Int:=jf (aB.size a0) a1
def gd (a0:aB)(a1:Int):Prop:=(aB.Sm maxLen a0)∧0≤a1∧a1≤1048576
def R:=RR (p2 gd) (u2 md)
theorem aj {a0 a1}(h:gd a0 a1):R ((aB.r a0),a1)=some (md a0 a1):=aM (a:=(a0,a1)) h
def aV:=CN [.agg AH,pI] oI RT.dec R
theorem bq (a0)(a1)(hg:gd a0 a1):F (aB.r a0) a1=ret (md a0 a1):=by
 obtain ⟨hs,g0,g1⟩:=hg
 unfold md
 show (call (Z4.R ((aa.r a0.aP),a1)) fun v1=>(bif (decide (v1<0)) then ret ((-1):Int) else (call (Z4.R ((aa.r a0.fA),v1)) fun v2=>(bif (decide (v2<0)) then ret ((-1):Int) else (call (Z4.R ((aa.r a0.fB),v2)) fun v3=>(cond (decide (v3<0)) (ret ((-1):Int)) (ret (v3:Int))))))))=_
 rw [call_eq (Z4.aj (a1:=a1) ⟨hs.1,by omega,by omega⟩)]
 unfold Z4.md
 by_cases c0:a1<((aa.size a0.aP:Nat):Int)
 ·rw [cP c0];rw [show jf (aB.size a0) a1=-1 from cP (by unfold aB.size;omega)];try rfl
 rw [dA c0,dn (by omega),bk]
 rw [call_eq (Z4.aj (a1:=(a1 - ((aa.size a0.aP:Nat):Int))) ⟨hs.2.1,by omega,by omega⟩)]
 unfold Z4.md
 by_cases c1:(a1 - ((aa.size a0.aP:Nat):Int))<((aa.size a0.fA:Nat):Int)
 ·rw [cP c1];rw [show jf (aB.size a0) a1=-1 from cP (by unfold aB.size;omega)];try rfl
 rw [dA c1,dn (by omega),bk]
 rw [call_eq (Z4.aj (a1:=(a1 - ((aa.size a0.aP:Nat):Int) - ((aa.size a0.fA:Nat):Int))) ⟨hs.2.2,by omega,by omega⟩)]
 unfold Z4.md
 by_cases c2:(a1 - ((aa.size a0.aP:Nat):Int) - ((aa.size a0.fA:Nat):Int))<((aa.size a0.fB:Nat):Int)
 ·rw [cP c2];rw [show jf (aB.size a0) a1=-1 from cP (by unfold aB.size;omega)];try rfl
 rw [dA c2,dn (by omega),bk]
 rw [show jf (aB.size a0) a1=a1 - ((aa.size a0.aP:Nat):Int) - ((aa.size a0.fA:Nat):Int) - ((aa.size a0.fB:Nat):Int) from by rw [dA (by unfold aB.size;omega)];unfold aB.size;omega]
theorem af:cw 321 aV:=W2 24 F mix aD bq (.cons Z4.af .nil) Tryz.func321
end Z7
namespace Z8
inductive Pt where
 | p0 (a:List (List L)) (b:Int) (c:Int)
def pid:Pt→Nat
 | .p0 ..=>5
def bY:Pt→List V
 | .p0 a b c=>[.sl none 347 a,.int .i64 b,.int .i64 c]
def bZ:Pt→List aU
 | .p0 a b c=>[]
def step (J:Pt→aG):Pt→aG
 | .p0 a b c=>(cond (decide (c<(a.length:Int))) (m2 c (a.length:Int) (call (Z7.R ((bF.at a (toNat c)),b)) fun v1=>(cond (decide (v1<0)) (ret ((-1):Int)) (J (.p0 a v1 (i64.wrap (c+1))))))) (ret (b:Int)))
def start (J:Pt→aG)(x0:List (List L))(x1:Int):aG:=(cond (decide ((i64.wrap (x1 - (x0.length:Int)))<0)) (ret ((-1):Int)) (J (.p0 x0 (i64.wrap (x1 - (x0.length:Int))) 0)))
def live:Nat→Live:=fun i=>match i with | 5=>[(0,none),(1,none),(5,none)] | _=>[]
def md (a0:List aB)(a1:Int):Int:=jf (dQ (fun y:aB=>aB.size y) a0) a1
def gd (a0:List aB)(a1:Int):Prop:=(bK maxLen (fun y:aB=>aB.Sm maxLen y) a0)∧0≤a1∧a1≤1048576
def R:=RR (p2 gd) (u2 md)
theorem aj {a0 a1}(h:gd a0 a1):R ((a0.map aB.row),a1)=some (md a0 a1):=aM (a:=(a0,a1)) h
def aV:=CN [pL 347,pI] oI RT.dec R
theorem bq (a0)(a1)(hg:gd a0 a1):∃n,start (iter step n) (a0.map aB.row) a1=ret (md a0 a1):=by
 obtain ⟨hs,g0,g1⟩:=hg
 unfold start md
 simp only [List.length_map]
 refine kC (pt:=fun left i=>Pt.p0 (a0.map aB.row) left (i:Int)) (f:=fun y:aB=>aB.size y) hs.1 (fun J i h left p0 p1=>?_) (fun J left=>?_) g0 g1
 ·simp only [step,MM,List.length_map,aL h,aH,bf,cF,aB.eH h]
  rw [call_eq (Z7.aj ⟨hs.get h,p0,p1⟩),aE h hs.1]
  unfold Z7.md
  by_cases hc:left<((aB.size (a0[i]):Nat):Int)
  ·rw [cP hc,if_pos hc];rfl
  ·rw [dA hc,if_neg hc,dn (by omega)];rfl
 ·simp only [step,List.length_map,ef,bk]
theorem af:cw 162 aV:=L2 27 pid bY bZ live step start mix aD bq (.cons Z7.af .nil) Tryz.func162
end Z8
namespace Z9
def F (x0:bn)(x1:Int):aG:=(call (Z6.R (x0.aF,x1)) fun v1=>(cond (decide (v1<0)) (ret ((-1):Int)) (call (Z8.R (x0.bg,v1)) fun v2=>(cond (decide (v2<0)) (ret ((-1):Int)) (ret (v2:Int))))))
def md (a0:au)(a1:Int):Int:=jf (au.size a0) a1
def gd (a0:au)(a1:Int):Prop:=(au.Sm maxLen a0)∧0≤a1∧a1≤1048576
def R:=RR (p2 gd) (u2 md)
theorem aj {a0 a1}(h:gd a0 a1):R ((au.r a0),a1)=some (md a0 a1):=aM (a:=(a0,a1)) h
def aV:=CN [.agg k25,pI] oI RT.dec R
theorem bq (a0)(a1)(hg:gd a0 a1):F (au.r a0) a1=ret (md a0 a1):=by
 obtain ⟨hs,g0,g1⟩:=hg
 unfold md
 show (call (Z6.R ((a0.aF.map (dK aa.row)),a1)) fun v1=>(bif (decide (v1<0)) then ret ((-1):Int) else (call (Z8.R ((a0.bg.map aB.row),v1)) fun v2=>(cond (decide (v2<0)) (ret ((-1):Int)) (ret (v2:Int))))))=_
 rw [call_eq (Z6.aj (a1:=a1) ⟨hs.1,by omega,by omega⟩)]
 unfold Z6.md
 by_cases c0:a1<((dQ (fun y:List aa=>dQ (fun y:aa=>aa.size y) y) a0.aF:Nat):Int)
 ·rw [cP c0];rw [show jf (au.size a0) a1=-1 from cP (by unfold au.size;omega)];try rfl
 rw [dA c0,dn (by omega),bk]
 rw [call_eq (Z8.aj (a1:=(a1 - ((dQ (fun y:List aa=>dQ (fun y:aa=>aa.size y) y) a0.aF:Nat):Int))) ⟨hs.2,by omega,by omega⟩)]
 unfold Z8.md
 by_cases c1:(a1 - ((dQ (fun y:List aa=>dQ (fun y:aa=>aa.size y) y) a0.aF:Nat):Int))<((dQ (fun y:aB=>aB.size y) a0.bg:Nat):Int)
 ·rw [cP c1];rw [show jf (au.size a0) a1=-1 from cP (by unfold au.size;omega)];try rfl
 rw [dA c1,dn (by omega),bk]
 rw [show jf (au.size a0) a1=a1 - ((dQ (fun y:List aa=>dQ (fun y:aa=>aa.size y) y) a0.aF:Nat):Int) - ((dQ (fun y:aB=>aB.size y) a0.bg:Nat):Int) from by rw [dA (by unfold au.size;omega)];unfold au.size;omega]
theorem af:cw 21 aV:=W2 18 F mix aD bq (.cons Z6.af (.cons Z8.af .nil)) Tryz.func21
end Z9
namespace Z10
inductive Pt where
 | p0 (a:List (List L)) (b:Int) (c:Int)
def pid:Pt→Nat
 | .p0 ..=>5
def bY:Pt→List V
 | .p0 a b c=>[.sl none 9 a,.int .i64 b,.int .i64 c]
def bZ:Pt→List aU
 | .p0 a b c=>[]
def step (J:Pt→aG):Pt→aG
 | .p0 a b c=>(cond (decide (c<(a.length:Int))) (m2 c (a.length:Int) (cond (decide ((i64.wrap (b - ((pZ a (toNat c)).size:Int)))<0)) (ret ((-1):Int)) (J (.p0 a (i64.wrap (b - ((pZ a (toNat c)).size:Int))) (i64.wrap (c+1)))))) (ret (b:Int)))
def start (J:Pt→aG)(x0:List (List L))(x1:Int):aG:=(cond (decide ((i64.wrap (x1 - (x0.length:Int)))<0)) (ret ((-1):Int)) (J (.p0 x0 (i64.wrap (x1 - (x0.length:Int))) 0)))
def live:Nat→Live:=fun i=>match i with | 5=>[(0,none),(1,none),(5,none)] | _=>[]
def md (a0:List ByteArray)(a1:Int):Int:=jf (dQ (fun y:ByteArray=>y.size) a0) a1
def gd (a0:List ByteArray)(a1:Int):Prop:=(bK maxLen (fun y:ByteArray=>y.size≤maxLen) a0)∧0≤a1∧a1≤1048576
def R:=RR (p2 gd) (u2 md)
theorem aj {a0 a1}(h:gd a0 a1):R ((a0.map cA),a1)=some (md a0 a1):=aM (a:=(a0,a1)) h
def aV:=CN [pL 9,pI] oI RT.dec R
theorem bq (a0)(a1)(hg:gd a0 a1):∃n,start (iter step n) (a0.map cA) a1=ret (md a0 a1):=by
 obtain ⟨hs,g0,g1⟩:=hg
 unfold start md
 simp only [List.length_map]
 refine kC (pt:=fun left i=>Pt.p0 (a0.map cA) left (i:Int)) (f:=fun y:ByteArray=>y.size) hs.1 (fun J i h left p0 p1=>?_) (fun J left=>?_) g0 g1
 ·simp only [step,MM,List.length_map,aL h,aH,bf,cF,pQ h]
  rw [nU p0 p1 (hs.get h),aE h hs.1]
  by_cases hc:left - ((a0[i].size:Nat):Int)<0
  ·rw [decide_eq_true hc,if_pos (by omega)];rfl
  ·rw [decide_eq_false hc,if_neg (by omega)];rfl
 ·simp only [step,List.length_map,ef,bk]
theorem af:cw 24 aV:=L2 28 pid bY bZ live step start mix aD bq .nil Tryz.func24
end Z10
namespace Z11
def F (x0:aS)(x1:Int):aG:=(cond (decide ((i64.wrap (x1 - (x0.aW.size:Int)))<0)) (ret ((-1):Int)) (call (Z10.R (x0.bC,(i64.wrap (x1 - (x0.aW.size:Int))))) fun v1=>(cond (decide (v1<0)) (ret ((-1):Int)) (ret (v1:Int)))))
def md (a0:ah)(a1:Int):Int:=jf (ah.size a0) a1
def gd (a0:ah)(a1:Int):Prop:=(ah.Sm maxLen a0)∧0≤a1∧a1≤1048576
def R:=RR (p2 gd) (u2 md)
theorem aj {a0 a1}(h:gd a0 a1):R ((ah.r a0),a1)=some (md a0 a1):=aM (a:=(a0,a1)) h
def aV:=CN [.agg Ab,pI] oI RT.dec R
theorem bq (a0)(a1)(hg:gd a0 a1):F (ah.r a0) a1=ret (md a0 a1):=by
 obtain ⟨hs,g0,g1⟩:=hg
 unfold md
 show (bif (decide ((i64.wrap (a1 - (a0.aW.size:Int)))<0)) then ret ((-1):Int) else (call (Z10.R ((a0.bC.map cA),(i64.wrap (a1 - (a0.aW.size:Int))))) fun v1=>(cond (decide (v1<0)) (ret ((-1):Int)) (ret (v1:Int)))))=_
 rw [nU (left:=a1) (s:=a0.aW.size) (by omega) (by omega) hs.1]
 by_cases c0:a1 - ((a0.aW.size:Nat):Int)<0
 ·rw [decide_eq_true c0,bf];rw [show jf (ah.size a0) a1=-1 from cP (by unfold ah.size;omega)];try rfl
 rw [decide_eq_false c0,bk]
 rw [call_eq (Z10.aj (a1:=(a1 - ((a0.aW.size:Nat):Int))) ⟨hs.2,by omega,by omega⟩)]
 unfold Z10.md
 by_cases c1:(a1 - ((a0.aW.size:Nat):Int))<((dQ (fun y:ByteArray=>y.size) a0.bC:Nat):Int)
 ·rw [cP c1];rw [show jf (ah.size a0) a1=-1 from cP (by unfold ah.size;omega)];try rfl
 rw [dA c1,dn (by omega),bk]
 rw [show jf (ah.size a0) a1=a1 - ((a0.aW.size:Nat):Int) - ((dQ (fun y:ByteArray=>y.size) a0.bC:Nat):Int) from by rw [dA (by unfold ah.size;omega)];unfold ah.size;omega]
theorem af:cw 495 aV:=W2 19 F mix aD bq (.cons Z10.af .nil) Tryz.func495
end Z11
namespace Z12
inductive Pt where
 | p0 (a:List (List L)) (b:Int) (c:Int)
def pid:Pt→Nat
 | .p0 ..=>5
def bY:Pt→List V
 | .p0 a b c=>[.sl none 357 a,.int .i64 b,.int .i64 c]
def bZ:Pt→List aU
 | .p0 a b c=>[]
def step (J:Pt→aG):Pt→aG
 | .p0 a b c=>(cond (decide (c<(a.length:Int))) (m2 c (a.length:Int) (call (Z11.R ((aS.at a (toNat c)),b)) fun v1=>(cond (decide (v1<0)) (ret ((-1):Int)) (J (.p0 a v1 (i64.wrap (c+1))))))) (ret (b:Int)))
def start (J:Pt→aG)(x0:List (List L))(x1:Int):aG:=(cond (decide ((i64.wrap (x1 - (x0.length:Int)))<0)) (ret ((-1):Int)) (J (.p0 x0 (i64.wrap (x1 - (x0.length:Int))) 0)))
def live:Nat→Live:=fun i=>match i with | 5=>[(0,none),(1,none),(5,none)] | _=>[]
def md (a0:List ah)(a1:Int):Int:=jf (dQ (fun y:ah=>ah.size y) a0) a1
def gd (a0:List ah)(a1:Int):Prop:=(bK maxLen (fun y:ah=>ah.Sm maxLen y) a0)∧0≤a1∧a1≤1048576
def R:=RR (p2 gd) (u2 md)
theorem aj {a0 a1}(h:gd a0 a1):R ((a0.map ah.row),a1)=some (md a0 a1):=aM (a:=(a0,a1)) h
def aV:=CN [pL 357,pI] oI RT.dec R
theorem bq (a0)(a1)(hg:gd a0 a1):∃n,start (iter step n) (a0.map ah.row) a1=ret (md a0 a1):=by
 obtain ⟨hs,g0,g1⟩:=hg
 unfold start md
 simp only [List.length_map]
 refine kC (pt:=fun left i=>Pt.p0 (a0.map ah.row) left (i:Int)) (f:=fun y:ah=>ah.size y) hs.1 (fun J i h left p0 p1=>?_) (fun J left=>?_) g0 g1
 ·simp only [step,MM,List.length_map,aL h,aH,bf,cF,ah.eH h]
  rw [call_eq (Z11.aj ⟨hs.get h,p0,p1⟩),aE h hs.1]
  unfold Z11.md
  by_cases hc:left<((ah.size (a0[i]):Nat):Int)
  ·rw [cP hc,if_pos hc];rfl
  ·rw [dA hc,if_neg hc,dn (by omega)];rfl
 ·simp only [step,List.length_map,ef,bk]
theorem af:cw 488 aV:=L2 27 pid bY bZ live step start mix aD bq (.cons Z11.af .nil) Tryz.func488
end Z12
namespace Z13
def F (x0:dH)(x1:Int):aG:=(call (Z5.R (x0.aQ,x1)) fun v1=>(cond (decide (v1<0)) (ret ((-1):Int)) (call (Z12.R (x0.bH,v1)) fun v2=>(cond (decide (v2<0)) (ret ((-1):Int)) (ret (v2:Int))))))
def md (a0:aI)(a1:Int):Int:=jf (aI.size a0) a1
def gd (a0:aI)(a1:Int):Prop:=(aI.Sm maxLen a0)∧0≤a1∧a1≤1048576
def R:=RR (p2 gd) (u2 md)
theorem aj {a0 a1}(h:gd a0 a1):R ((aI.r a0),a1)=some (md a0 a1):=aM (a:=(a0,a1)) h
def aV:=CN [.agg Aj,pI] oI RT.dec R
theorem bq (a0)(a1)(hg:gd a0 a1):F (aI.r a0) a1=ret (md a0 a1):=by
 obtain ⟨hs,g0,g1⟩:=hg
 unfold md
 show (call (Z5.R ((a0.aQ.map aa.row),a1)) fun v1=>(bif (decide (v1<0)) then ret ((-1):Int) else (call (Z12.R ((a0.bH.map ah.row),v1)) fun v2=>(cond (decide (v2<0)) (ret ((-1):Int)) (ret (v2:Int))))))=_
 rw [call_eq (Z5.aj (a1:=a1) ⟨hs.1,by omega,by omega⟩)]
 unfold Z5.md
 by_cases c0:a1<((dQ (fun y:aa=>aa.size y) a0.aQ:Nat):Int)
 ·rw [cP c0];rw [show jf (aI.size a0) a1=-1 from cP (by unfold aI.size;omega)];try rfl
 rw [dA c0,dn (by omega),bk]
 rw [call_eq (Z12.aj (a1:=(a1 - ((dQ (fun y:aa=>aa.size y) a0.aQ:Nat):Int))) ⟨hs.2,by omega,by omega⟩)]
 unfold Z12.md
 by_cases c1:(a1 - ((dQ (fun y:aa=>aa.size y) a0.aQ:Nat):Int))<((dQ (fun y:ah=>ah.size y) a0.bH:Nat):Int)
 ·rw [cP c1];rw [show jf (aI.size a0) a1=-1 from cP (by unfold aI.size;omega)];try rfl
 rw [dA c1,dn (by omega),bk]
 rw [show jf (aI.size a0) a1=a1 - ((dQ (fun y:aa=>aa.size y) a0.aQ:Nat):Int) - ((dQ (fun y:ah=>ah.size y) a0.bH:Nat):Int) from by rw [dA (by unfold aI.size;omega)];unfold aI.size;omega]
theorem af:cw 423 aV:=W2 18 F mix aD bq (.cons Z5.af (.cons Z12.af .nil)) Tryz.func423
end Z13
namespace Z14
inductive Pt where
 | p0 (a:List (List L)) (b:Int) (c:Int)
def pid:Pt→Nat
 | .p0 ..=>5
def bY:Pt→List V
 | .p0 a b c=>[.sl none 423 a,.int .i64 b,.int .i64 c]
def bZ:Pt→List aU
 | .p0 a b c=>[]
def step (J:Pt→aG):Pt→aG
 | .p0 a b c=>(cond (decide (c<(a.length:Int))) (m2 c (a.length:Int) (call (Z13.R ((dH.at a (toNat c)),b)) fun v1=>(cond (decide (v1<0)) (ret ((-1):Int)) (J (.p0 a v1 (i64.wrap (c+1))))))) (ret (b:Int)))
def start (J:Pt→aG)(x0:List (List L))(x1:Int):aG:=(cond (decide ((i64.wrap (x1 - (x0.length:Int)))<0)) (ret ((-1):Int)) (J (.p0 x0 (i64.wrap (x1 - (x0.length:Int))) 0)))
def live:Nat→Live:=fun i=>match i with | 5=>[(0,none),(1,none),(5,none)] | _=>[]
def md (a0:List aI)(a1:Int):Int:=jf (dQ (fun y:aI=>aI.size y) a0) a1
def gd (a0:List aI)(a1:Int):Prop:=(bK maxLen (fun y:aI=>aI.Sm maxLen y) a0)∧0≤a1∧a1≤1048576
def R:=RR (p2 gd) (u2 md)
theorem aj {a0 a1}(h:gd a0 a1):R ((a0.map aI.row),a1)=some (md a0 a1):=aM (a:=(a0,a1)) h
def aV:=CN [pL 423,pI] oI RT.dec R
theorem bq (a0)(a1)(hg:gd a0 a1):∃n,start (iter step n) (a0.map aI.row) a1=ret (md a0 a1):=by
 obtain ⟨hs,g0,g1⟩:=hg
 unfold start md
 simp only [List.length_map]
 refine kC (pt:=fun left i=>Pt.p0 (a0.map aI.row) left (i:Int)) (f:=fun y:aI=>aI.size y) hs.1 (fun J i h left p0 p1=>?_) (fun J left=>?_) g0 g1
 ·simp only [step,MM,List.length_map,aL h,aH,bf,cF,aI.eH h]
  rw [call_eq (Z13.aj ⟨hs.get h,p0,p1⟩),aE h hs.1]
  unfold Z13.md
  by_cases hc:left<((aI.size (a0[i]):Nat):Int)
  ·rw [cP hc,if_pos hc];rfl
  ·rw [dA hc,if_neg hc,dn (by omega)];rfl
 ·simp only [step,List.length_map,ef,bk]
theorem af:cw 322 aV:=L2 27 pid bY bZ live step start mix aD bq (.cons Z13.af .nil) Tryz.func322
end Z14
namespace Z15
def F (x0:cI)(x1:Int):aG:=(call (Z14.R (x0.bE,x1)) fun v1=>(cond (decide (v1<0)) (ret ((-1):Int)) (ret (v1:Int))))
def md (a0:az)(a1:Int):Int:=jf (az.size a0) a1
def gd (a0:az)(a1:Int):Prop:=(az.Sm maxLen a0)∧0≤a1∧a1≤1048576
def R:=RR (p2 gd) (u2 md)
theorem aj {a0 a1}(h:gd a0 a1):R ((az.r a0),a1)=some (md a0 a1):=aM (a:=(a0,a1)) h
def aV:=CN [.agg Ar,pI] oI RT.dec R
theorem bq (a0)(a1)(hg:gd a0 a1):F (az.r a0) a1=ret (md a0 a1):=by
 obtain ⟨hs,g0,g1⟩:=hg
 unfold md
 show (call (Z14.R ((a0.bE.map aI.row),a1)) fun v1=>(cond (decide (v1<0)) (ret ((-1):Int)) (ret (v1:Int))))=_
 rw [call_eq (Z14.aj (a1:=a1) ⟨hs,by omega,by omega⟩)]
 unfold Z14.md
 by_cases c0:a1<((dQ (fun y:aI=>aI.size y) a0.bE:Nat):Int)
 ·rw [cP c0];rw [show jf (az.size a0) a1=-1 from cP (by unfold az.size;omega)];try rfl
 rw [dA c0,dn (by omega),bk]
 rw [show jf (az.size a0) a1=a1 - ((dQ (fun y:aI=>aI.size y) a0.bE:Nat):Int) from by rw [dA (by unfold az.size;omega)];unfold az.size;omega]
theorem af:cw 163 aV:=W2 12 F mix aD bq (.cons Z14.af .nil) Tryz.func163
end Z15
namespace Z16
inductive Pt where
 | p0 (a:List (List L)) (b:Int) (c:Int)
def pid:Pt→Nat
 | .p0 ..=>5
def bY:Pt→List V
 | .p0 a b c=>[.sl none 218 a,.int .i64 b,.int .i64 c]
def bZ:Pt→List aU
 | .p0 a b c=>[]
def step (J:Pt→aG):Pt→aG
 | .p0 a b c=>(cond (decide (c<(a.length:Int))) (m2 c (a.length:Int) (call (Z15.R ((cI.at a (toNat c)),b)) fun v1=>(cond (decide (v1<0)) (ret ((-1):Int)) (J (.p0 a v1 (i64.wrap (c+1))))))) (ret (b:Int)))
def start (J:Pt→aG)(x0:List (List L))(x1:Int):aG:=(cond (decide ((i64.wrap (x1 - (x0.length:Int)))<0)) (ret ((-1):Int)) (J (.p0 x0 (i64.wrap (x1 - (x0.length:Int))) 0)))
def live:Nat→Live:=fun i=>match i with | 5=>[(0,none),(1,none),(5,none)] | _=>[]
def md (a0:List az)(a1:Int):Int:=jf (dQ (fun y:az=>az.size y) a0) a1
def gd (a0:List az)(a1:Int):Prop:=(bK maxLen (fun y:az=>az.Sm maxLen y) a0)∧0≤a1∧a1≤1048576
def R:=RR (p2 gd) (u2 md)
theorem aj {a0 a1}(h:gd a0 a1):R ((a0.map az.row),a1)=some (md a0 a1):=aM (a:=(a0,a1)) h
def aV:=CN [pL 218,pI] oI RT.dec R
theorem bq (a0)(a1)(hg:gd a0 a1):∃n,start (iter step n) (a0.map az.row) a1=ret (md a0 a1):=by
 obtain ⟨hs,g0,g1⟩:=hg
 unfold start md
 simp only [List.length_map]
 refine kC (pt:=fun left i=>Pt.p0 (a0.map az.row) left (i:Int)) (f:=fun y:az=>az.size y) hs.1 (fun J i h left p0 p1=>?_) (fun J left=>?_) g0 g1
 ·simp only [step,MM,List.length_map,aL h,aH,bf,cF,az.eH h]
  rw [call_eq (Z15.aj ⟨hs.get h,p0,p1⟩),aE h hs.1]
  unfold Z15.md
  by_cases hc:left<((az.size (a0[i]):Nat):Int)
  ·rw [cP hc,if_pos hc];rfl
  ·rw [dA hc,if_neg hc,dn (by omega)];rfl
 ·simp only [step,List.length_map,ef,bk]
theorem af:cw 22 aV:=L2 27 pid bY bZ live step start mix aD bq (.cons Z15.af .nil) Tryz.func22
end Z16
namespace Z17
inductive Pt where
 | p0 (a:List (List L)) (b:Int) (c:List (List L))
def pid:Pt→Nat
 | .p0 ..=>3
def bY:Pt→List V
 | .p0 a b c=>[.sl none 3 a,.own 0,.int .i64 b]
def bZ:Pt→List aU
 | .p0 a b c=>[.row 3 c]
def step (J:Pt→aG):Pt→aG
 | .p0 a b c=>(cond (decide (b<(a.length:Int))) (m2 b (a.length:Int) (m2 b (c.length:Int) (J (.p0 a (i64.wrap (b+1)) (List.set c (toNat b) [L.int (jv a (toNat b))]))))) (ret (c:List (List L))))
def start (J:Pt→aG)(x0:List (List L)):aG:=(bX (decide ((0:Int)≤(x0.length:Int))) (bX (decide ((x0.length:Int)≤(x0.length:Int))) (bX (decide ((x0.length:Int)*8≤140737488355328)) (J (.p0 x0 0 (List.replicate (toNat (x0.length:Int)) [L.int 0]))))))
def live:Nat→Live:=fun i=>match i with | 3=>[(0,none),(3,none),(4,none)] | _=>[]
def md (a0:List Int):List Int:=a0
def gd (a0:List Int):Prop:=bK (2^36) (fun y:Int=>True) a0
def R:=RR gd md
theorem aj {a0}(h:gd a0):R (a0.map aZ)=some (a0.map aZ):=aM (a:=a0) h
def aV:=CN [pL 3] (oL 3) RT.dec R
theorem bq (a0)(hg:gd a0):∃n,start (iter step n) (a0.map aZ)=ret ((md a0).map aZ):=by
 unfold start md
 simp only [List.length_map]
 refine jh (b:=8) (pt:=fun i c=>Pt.p0 (a0.map aZ) (i:Int) c) (by have:=hg.1;simp at this;omega) (fun J i h c hc=>?_) (fun J c=>?_)
 ·simp only [step,MM,List.length_map,aL h,aH,bf,cF,tA h,hc]
  rw [aE (n:=a0.length) h (by have:=hg.1;simp only [maxLen];simp at this;omega)]
  rfl
 ·simp only [step,List.length_map,ef,bk]
theorem af:cw 556 aV:=L1 22 pid bY bZ live step start mix aD bq .nil Tryz.func556
end Z17
namespace Z18
def F (x0:bu):aG:=(call (Z17.R x0.aT) fun v1=>ret ((⟨v1,x0.cu⟩:bu):bu))
def md (a0:aJ):aJ:=a0
def gd (a0:aJ):Prop:=aJ.Sm (2^36) a0
def R:=RR gd md
theorem aj {a0}(h:gd a0):R (aJ.r a0)=some (aJ.r a0):=aM (a:=a0) h
def aV:=CN [.agg AE] (.agg f98) RT.dec R
theorem bq (a0)(hg:gd a0):F (aJ.r a0)=ret (aJ.r (md a0)):=by
 unfold md
 show (call (Z17.R (a0.aT.map aZ)) fun v1=>ret ((⟨v1,a0.cu⟩:bu):bu))=_
 rw [call_eq (Z17.aj hg)]
 rfl
theorem af:cw 551 aV:=W1 12 F mix aD bq (.cons Z17.af .nil) Tryz.func551
end Z18
namespace Z19
def F (x0:bU):aG:=(call (Z18.R x0.bJ) fun v1=>(call (Z18.R x0.bw) fun v2=>(call (Z18.R x0.bp) fun v3=>ret ((⟨x0.bA,x0.cE,x0.bD,x0.cB,x0.cq,x0.cg,x0.cS,x0.dz,v1,v2,x0.cW,v3,x0.bB⟩:bU):bU))))
def md (a0:aC):aC:=a0
def gd (a0:aC):Prop:=aC.Sm (2^36) a0
def R:=RR gd md
theorem aj {a0}(h:gd a0):R (aC.r a0)=some (aC.r a0):=aM (a:=a0) h
def aV:=CN [.agg Ao] (.agg f102) RT.dec R
theorem bq (a0)(hg:gd a0):F (aC.r a0)=ret (aC.r (md a0)):=by
 unfold md
 show (call (Z18.R (aJ.r a0.bJ)) fun v1=>(call (Z18.R (aJ.r a0.bw)) fun v2=>(call (Z18.R (aJ.r a0.bp)) fun v3=>ret ((⟨a0.bA,a0.cE,a0.bD,a0.cB,a0.cq,a0.cg,a0.cS,a0.dz,v1,v2,a0.cW,v3,a0.bB⟩:bU):bU))))=_
 rw [call_eq (Z18.aj hg.1)]
 rw [call_eq (Z18.aj hg.2.1)]
 rw [call_eq (Z18.aj hg.2.2)]
 rfl
theorem af:cw 489 aV:=W1 47 F mix aD bq (.cons Z18.af .nil) Tryz.func489
end Z19
namespace Z20
def F (x0:aY):aG:=ret (x0:aY)
def md (a0:aY):aY:=a0
def gd (a0:aY):Prop:=aY.Sm (2^36) a0
def R:=RR gd md
theorem aj {a0}(h:gd a0):R a0=some a0:=aM (a:=a0) h
def aV:=CN [.agg AW] (.agg f428) RT.dec R
theorem bq (a0)(hg:gd a0):F a0=ret (md a0):=by
 rfl
theorem af:cw 552 aV:=W1 11 F mix aD bq .nil Tryz.func552
end Z20
namespace Z21
inductive Pt where
 | p0 (a:List (List L)) (b:Int) (c:List (List L))
def pid:Pt→Nat
 | .p0 ..=>3
def bY:Pt→List V
 | .p0 a b c=>[.sl none 516 a,.own 0,.int .i64 b]
def bZ:Pt→List aU
 | .p0 a b c=>[.row 428 c]
def step (J:Pt→aG):Pt→aG
 | .p0 a b c=>(cond (decide (b<(a.length:Int))) (m2 b (a.length:Int) (call (Z20.R (aY.at a (toNat b))) fun v1=>(m2 b (c.length:Int) (J (.p0 a (i64.wrap (b+1)) (List.set c (toNat b) (aY.enc v1))))))) (ret (c:List (List L))))
def start (J:Pt→aG)(x0:List (List L)):aG:=(bX (decide ((0:Int)≤(x0.length:Int))) (bX (decide ((x0.length:Int)≤(x0.length:Int))) (bX (decide ((x0.length:Int)*16≤140737488355328)) (J (.p0 x0 0 (List.replicate (toNat (x0.length:Int)) [L.int 0,L.int 0]))))))
def live:Nat→Live:=fun i=>match i with | 3=>[(0,none),(3,none),(4,none)] | _=>[]
def md (a0:List aY):List aY:=a0
def gd (a0:List aY):Prop:=bK (2^36) (fun y:aY=>aY.Sm (2^36) y) a0
def R:=RR gd md
theorem aj {a0}(h:gd a0):R (a0.map aY.row)=some (a0.map aY.row):=aM (a:=a0) h
def aV:=CN [pL 516] (oL 428) RT.dec R
theorem bq (a0)(hg:gd a0):∃n,start (iter step n) (a0.map aY.row)=ret ((md a0).map aY.row):=by
 unfold start md
 simp only [List.length_map]
 refine jh (b:=16) (pt:=fun i c=>Pt.p0 (a0.map aY.row) (i:Int) c) (by have:=hg.1;simp at this;omega) (fun J i h c hc=>?_) (fun J c=>?_)
 ·simp only [step,MM,List.length_map,aL h,aH,bf,cF,aY.eH h,hc]
  rw [call_eq (Z20.aj (hg.get h))]
  try simp only [hc,aL h,bf]
  rw [aE (n:=a0.length) h (by have:=hg.1;simp only [maxLen];simp at this;omega)]
  rfl
 ·simp only [step,List.length_map,ef,bk]
theorem af:cw 490 aV:=L1 23 pid bY bZ live step start mix aD bq (.cons Z20.af .nil) Tryz.func490
end Z21
namespace Z22
def F (x0:aO):aG:=(call (Z19.R x0.aq) fun v1=>(call (Z21.R x0.bW) fun v2=>ret ((⟨v1,v2⟩:aO):aO)))
def md (a0:aa):aa:=a0
def gd (a0:aa):Prop:=aa.Sm (2^36) a0
def R:=RR gd md
theorem aj {a0}(h:gd a0):R (aa.r a0)=some (aa.r a0):=aM (a:=a0) h
def aV:=CN [.agg Ac] (.agg f123) RT.dec R
theorem bq (a0)(hg:gd a0):F (aa.r a0)=ret (aa.r (md a0)):=by
 unfold md
 show (call (Z19.R (aC.r a0.aq)) fun v1=>(call (Z21.R (a0.bW.map aY.row)) fun v2=>ret ((⟨v1,v2⟩:aO):aO)))=_
 rw [call_eq (Z19.aj hg.1)]
 rw [call_eq (Z21.aj hg.2)]
 rfl
theorem af:cw 424 aV:=W1 13 F mix aD bq (.cons Z19.af (.cons Z21.af .nil)) Tryz.func424
end Z22
namespace Z23
inductive Pt where
 | p0 (a:List (List L)) (b:Int) (c:List (List L))
def pid:Pt→Nat
 | .p0 ..=>3
def bY:Pt→List V
 | .p0 a b c=>[.sl none 345 a,.own 0,.int .i64 b]
def bZ:Pt→List aU
 | .p0 a b c=>[.row 123 c]
def step (J:Pt→aG):Pt→aG
 | .p0 a b c=>(cond (decide (b<(a.length:Int))) (m2 b (a.length:Int) (call (Z22.R (aO.at a (toNat b))) fun v1=>(m2 b (c.length:Int) (J (.p0 a (i64.wrap (b+1)) (List.set c (toNat b) (aO.enc v1))))))) (ret (c:List (List L))))
def start (J:Pt→aG)(x0:List (List L)):aG:=(bX (decide ((0:Int)≤(x0.length:Int))) (bX (decide ((x0.length:Int)≤(x0.length:Int))) (bX (decide ((x0.length:Int)*200≤140737488355328)) (J (.p0 x0 0 (List.replicate (toNat (x0.length:Int)) [L.int 0,L.int 0,L.int 0,L.int 0,L.int 0,L.int 0,L.int 0,L.int 0,L.sl [],L.int 0,L.sl [],L.int 0,L.int 0,L.sl [],L.int 0,L.bool false,L.sl []]))))))
def live:Nat→Live:=fun i=>match i with | 3=>[(0,none),(3,none),(4,none)] | _=>[]
def md (a0:List aa):List aa:=a0
def gd (a0:List aa):Prop:=bK (2^36) (fun y:aa=>aa.Sm (2^36) y) a0
def R:=RR gd md
theorem aj {a0}(h:gd a0):R (a0.map aa.row)=some (a0.map aa.row):=aM (a:=a0) h
def aV:=CN [pL 345] (oL 123) RT.dec R
theorem bq (a0)(hg:gd a0):∃n,start (iter step n) (a0.map aa.row)=ret ((md a0).map aa.row):=by
 unfold start md
 simp only [List.length_map]
 refine jh (b:=200) (pt:=fun i c=>Pt.p0 (a0.map aa.row) (i:Int) c) (by have:=hg.1;simp at this;omega) (fun J i h c hc=>?_) (fun J c=>?_)
 ·simp only [step,MM,List.length_map,aL h,aH,bf,cF,aa.eH h,hc]
  rw [call_eq (Z22.aj (hg.get h))]
  try simp only [hc,aL h,bf]
  rw [aE (n:=a0.length) h (by have:=hg.1;simp only [maxLen];simp at this;omega)]
  rfl
 ·simp only [step,List.length_map,ef,bk]
theorem af:cw 324 aV:=L1 23 pid bY bZ live step start mix aD bq (.cons Z22.af .nil) Tryz.func324
end Z23
namespace Z24
inductive Pt where
 | p0 (a:List (List L)) (b:Int) (c:List (List L))
def pid:Pt→Nat
 | .p0 ..=>3
def bY:Pt→List V
 | .p0 a b c=>[.sl none 338 a,.own 0,.int .i64 b]
def bZ:Pt→List aU
 | .p0 a b c=>[.row 92 c]
def step (J:Pt→aG):Pt→aG
 | .p0 a b c=>(cond (decide (b<(a.length:Int))) (m2 b (a.length:Int) (call (Z23.R (oO a (toNat b))) fun v1=>(m2 b (c.length:Int) (J (.p0 a (i64.wrap (b+1)) (List.set c (toNat b) [L.sl v1])))))) (ret (c:List (List L))))
def start (J:Pt→aG)(x0:List (List L)):aG:=(bX (decide ((0:Int)≤(x0.length:Int))) (bX (decide ((x0.length:Int)≤(x0.length:Int))) (bX (decide ((x0.length:Int)*24≤140737488355328)) (J (.p0 x0 0 (List.replicate (toNat (x0.length:Int)) [L.sl []]))))))
def live:Nat→Live:=fun i=>match i with | 3=>[(0,none),(3,none),(4,none)] | _=>[]
def md (a0:List (List aa)):List (List aa):=a0
def gd (a0:List (List aa)):Prop:=bK (2^36) (fun y:List aa=>bK (2^36) (fun y:aa=>aa.Sm (2^36) y) y) a0
def R:=RR gd md
theorem aj {a0}(h:gd a0):R (a0.map (dK aa.row))=some (a0.map (dK aa.row)):=aM (a:=a0) h
def aV:=CN [pL 338] (oL 92) RT.dec R
theorem bq (a0)(hg:gd a0):∃n,start (iter step n) (a0.map (dK aa.row))=ret ((md a0).map (dK aa.row)):=by
 unfold start md
 simp only [List.length_map]
 refine jh (b:=24) (pt:=fun i c=>Pt.p0 (a0.map (dK aa.row)) (i:Int) c) (by have:=hg.1;simp at this;omega) (fun J i h c hc=>?_) (fun J c=>?_)
 ·simp only [step,MM,List.length_map,aL h,aH,bf,cF,pY h,hc]
  rw [call_eq (Z23.aj (hg.get h))]
  try simp only [hc,aL h,bf]
  rw [aE (n:=a0.length) h (by have:=hg.1;simp only [maxLen];simp at this;omega)]
  rfl
 ·simp only [step,List.length_map,ef,bk]
theorem af:cw 166 aV:=L1 23 pid bY bZ live step start mix aD bq (.cons Z23.af .nil) Tryz.func166
end Z24
namespace Z25
def F (x0:bF):aG:=(call (Z22.R x0.aP) fun v1=>(call (Z22.R x0.fA) fun v2=>(call (Z22.R x0.fB) fun v3=>ret ((⟨v1,v2,v3⟩:bF):bF))))
def md (a0:aB):aB:=a0
def gd (a0:aB):Prop:=aB.Sm (2^36) a0
def R:=RR gd md
theorem aj {a0}(h:gd a0):R (aB.r a0)=some (aB.r a0):=aM (a:=a0) h
def aV:=CN [.agg AH] (.agg f280) RT.dec R
theorem bq (a0)(hg:gd a0):F (aB.r a0)=ret (aB.r (md a0)):=by
 unfold md
 show (call (Z22.R (aa.r a0.aP)) fun v1=>(call (Z22.R (aa.r a0.fA)) fun v2=>(call (Z22.R (aa.r a0.fB)) fun v3=>ret ((⟨v1,v2,v3⟩:bF):bF))))=_
 rw [call_eq (Z22.aj hg.1)]
 rw [call_eq (Z22.aj hg.2.1)]
 rw [call_eq (Z22.aj hg.2.2)]
 rfl
theorem af:cw 325 aV:=W1 17 F mix aD bq (.cons Z22.af .nil) Tryz.func325
end Z25
namespace Z26
inductive Pt where
 | p0 (a:List (List L)) (b:Int) (c:List (List L))
def pid:Pt→Nat
 | .p0 ..=>3
def bY:Pt→List V
 | .p0 a b c=>[.sl none 347 a,.own 0,.int .i64 b]
def bZ:Pt→List aU
 | .p0 a b c=>[.row 280 c]
def step (J:Pt→aG):Pt→aG
 | .p0 a b c=>(cond (decide (b<(a.length:Int))) (m2 b (a.length:Int) (call (Z25.R (bF.at a (toNat b))) fun v1=>(m2 b (c.length:Int) (J (.p0 a (i64.wrap (b+1)) (List.set c (toNat b) (bF.enc v1))))))) (ret (c:List (List L))))
def start (J:Pt→aG)(x0:List (List L)):aG:=(bX (decide ((0:Int)≤(x0.length:Int))) (bX (decide ((x0.length:Int)≤(x0.length:Int))) (bX (decide ((x0.length:Int)*600≤140737488355328)) (J (.p0 x0 0 (List.replicate (toNat (x0.length:Int)) [L.int 0,L.int 0,L.int 0,L.int 0,L.int 0,L.int 0,L.int 0,L.int 0,L.sl [],L.int 0,L.sl [],L.int 0,L.int 0,L.sl [],L.int 0,L.bool false,L.sl [],L.int 0,L.int 0,L.int 0,L.int 0,L.int 0,L.int 0,L.int 0,L.int 0,L.sl [],L.int 0,L.sl [],L.int 0,L.int 0,L.sl [],L.int 0,L.bool false,L.sl [],L.int 0,L.int 0,L.int 0,L.int 0,L.int 0,L.int 0,L.int 0,L.int 0,L.sl [],L.int 0,L.sl [],L.int 0,L.int 0,L.sl [],L.int 0,L.bool false,L.sl []]))))))
def live:Nat→Live:=fun i=>match i with | 3=>[(0,none),(3,none),(4,none)] | _=>[]
def md (a0:List aB):List aB:=a0
def gd (a0:List aB):Prop:=bK (2^36) (fun y:aB=>aB.Sm (2^36) y) a0
def R:=RR gd md
theorem aj {a0}(h:gd a0):R (a0.map aB.row)=some (a0.map aB.row):=aM (a:=a0) h
def aV:=CN [pL 347] (oL 280) RT.dec R
theorem bq (a0)(hg:gd a0):∃n,start (iter step n) (a0.map aB.row)=ret ((md a0).map aB.row):=by
 unfold start md
 simp only [List.length_map]
 refine jh (b:=600) (pt:=fun i c=>Pt.p0 (a0.map aB.row) (i:Int) c) (by have:=hg.1;simp at this;omega) (fun J i h c hc=>?_) (fun J c=>?_)
 ·simp only [step,MM,List.length_map,aL h,aH,bf,cF,aB.eH h,hc]
  rw [call_eq (Z25.aj (hg.get h))]
  try simp only [hc,aL h,bf]
  rw [aE (n:=a0.length) h (by have:=hg.1;simp only [maxLen];simp at this;omega)]
  rfl
 ·simp only [step,List.length_map,ef,bk]
theorem af:cw 167 aV:=L1 23 pid bY bZ live step start mix aD bq (.cons Z25.af .nil) Tryz.func167
end Z26
namespace Z27
def F (x0:bn):aG:=(call (Z24.R x0.aF) fun v1=>(call (Z26.R x0.bg) fun v2=>ret ((⟨v1,v2⟩:bn):bn)))
def md (a0:au):au:=a0
def gd (a0:au):Prop:=au.Sm (2^36) a0
def R:=RR gd md
theorem aj {a0}(h:gd a0):R (au.r a0)=some (au.r a0):=aM (a:=a0) h
def aV:=CN [.agg k25] (.agg f37) RT.dec R
theorem bq (a0)(hg:gd a0):F (au.r a0)=ret (au.r (md a0)):=by
 unfold md
 show (call (Z24.R (a0.aF.map (dK aa.row))) fun v1=>(call (Z26.R (a0.bg.map aB.row)) fun v2=>ret ((⟨v1,v2⟩:bn):bn)))=_
 rw [call_eq (Z24.aj hg.1)]
 rw [call_eq (Z26.aj hg.2)]
 rfl
theorem af:cw 26 aV:=W1 13 F mix aD bq (.cons Z24.af (.cons Z26.af .nil)) Tryz.func26
end Z27
namespace Z28
inductive Pt where
 | p0 (a:List (List L)) (b:Int) (c:List (List L))
def pid:Pt→Nat
 | .p0 ..=>3
def bY:Pt→List V
 | .p0 a b c=>[.sl none 9 a,.own 0,.int .i64 b]
def bZ:Pt→List aU
 | .p0 a b c=>[.row 9 c]
def step (J:Pt→aG):Pt→aG
 | .p0 a b c=>(cond (decide (b<(a.length:Int))) (m2 b (a.length:Int) (m2 b (c.length:Int) (J (.p0 a (i64.wrap (b+1)) (List.set c (toNat b) [L.str (pZ a (toNat b))]))))) (ret (c:List (List L))))
def start (J:Pt→aG)(x0:List (List L)):aG:=(bX (decide ((0:Int)≤(x0.length:Int))) (bX (decide ((x0.length:Int)≤(x0.length:Int))) (bX (decide ((x0.length:Int)*16≤140737488355328)) (J (.p0 x0 0 (List.replicate (toNat (x0.length:Int)) [L.str ⟨#[]⟩]))))))
def live:Nat→Live:=fun i=>match i with | 3=>[(0,none),(3,none),(4,none)] | _=>[]
def md (a0:List ByteArray):List ByteArray:=a0
def gd (a0:List ByteArray):Prop:=bK (2^36) (fun y:ByteArray=>y.size≤(2^36)) a0
def R:=RR gd md
theorem aj {a0}(h:gd a0):R (a0.map cA)=some (a0.map cA):=aM (a:=a0) h
def aV:=CN [pL 9] (oL 9) RT.dec R
theorem bq (a0)(hg:gd a0):∃n,start (iter step n) (a0.map cA)=ret ((md a0).map cA):=by
 unfold start md
 simp only [List.length_map]
 refine jh (b:=16) (pt:=fun i c=>Pt.p0 (a0.map cA) (i:Int) c) (by have:=hg.1;simp at this;omega) (fun J i h c hc=>?_) (fun J c=>?_)
 ·simp only [step,MM,List.length_map,aL h,aH,bf,cF,pQ h,hc]
  rw [aE (n:=a0.length) h (by have:=hg.1;simp only [maxLen];simp at this;omega)]
  rfl
 ·simp only [step,List.length_map,ef,bk]
theorem af:cw 29 aV:=L1 22 pid bY bZ live step start mix aD bq .nil Tryz.func29
end Z28
namespace Z29
def F (x0:aS):aG:=(call (Z28.R x0.bC) fun v1=>ret ((⟨x0.aW,x0.bD,x0.bS,v1⟩:aS):aS))
def md (a0:ah):ah:=a0
def gd (a0:ah):Prop:=ah.Sm (2^36) a0
def R:=RR gd md
theorem aj {a0}(h:gd a0):R (ah.r a0)=some (ah.r a0):=aM (a:=a0) h
def aV:=CN [.agg Ab] (.agg f61) RT.dec R
theorem bq (a0)(hg:gd a0):F (ah.r a0)=ret (ah.r (md a0)):=by
 unfold md
 show (call (Z28.R (a0.bC.map cA)) fun v1=>ret ((⟨a0.aW,a0.bD,a0.bS,v1⟩:aS):aS))=_
 rw [call_eq (Z28.aj hg.2)]
 rfl
theorem af:cw 498 aV:=W1 18 F mix aD bq (.cons Z28.af .nil) Tryz.func498
end Z29
namespace Z30
inductive Pt where
 | p0 (a:List (List L)) (b:Int) (c:List (List L))
def pid:Pt→Nat
 | .p0 ..=>3
def bY:Pt→List V
 | .p0 a b c=>[.sl none 357 a,.own 0,.int .i64 b]
def bZ:Pt→List aU
 | .p0 a b c=>[.row 61 c]
def step (J:Pt→aG):Pt→aG
 | .p0 a b c=>(cond (decide (b<(a.length:Int))) (m2 b (a.length:Int) (call (Z29.R (aS.at a (toNat b))) fun v1=>(m2 b (c.length:Int) (J (.p0 a (i64.wrap (b+1)) (List.set c (toNat b) (aS.enc v1))))))) (ret (c:List (List L))))
def start (J:Pt→aG)(x0:List (List L)):aG:=(bX (decide ((0:Int)≤(x0.length:Int))) (bX (decide ((x0.length:Int)≤(x0.length:Int))) (bX (decide ((x0.length:Int)*56≤140737488355328)) (J (.p0 x0 0 (List.replicate (toNat (x0.length:Int)) [L.str ⟨#[]⟩,L.int 0,L.int 0,L.sl []]))))))
def live:Nat→Live:=fun i=>match i with | 3=>[(0,none),(3,none),(4,none)] | _=>[]
def md (a0:List ah):List ah:=a0
def gd (a0:List ah):Prop:=bK (2^36) (fun y:ah=>ah.Sm (2^36) y) a0
def R:=RR gd md
theorem aj {a0}(h:gd a0):R (a0.map ah.row)=some (a0.map ah.row):=aM (a:=a0) h
def aV:=CN [pL 357] (oL 61) RT.dec R
theorem bq (a0)(hg:gd a0):∃n,start (iter step n) (a0.map ah.row)=ret ((md a0).map ah.row):=by
 unfold start md
 simp only [List.length_map]
 refine jh (b:=56) (pt:=fun i c=>Pt.p0 (a0.map ah.row) (i:Int) c) (by have:=hg.1;simp at this;omega) (fun J i h c hc=>?_) (fun J c=>?_)
 ·simp only [step,MM,List.length_map,aL h,aH,bf,cF,ah.eH h,hc]
  rw [call_eq (Z29.aj (hg.get h))]
  try simp only [hc,aL h,bf]
  rw [aE (n:=a0.length) h (by have:=hg.1;simp only [maxLen];simp at this;omega)]
  rfl
 ·simp only [step,List.length_map,ef,bk]
theorem af:cw 491 aV:=L1 23 pid bY bZ live step start mix aD bq (.cons Z29.af .nil) Tryz.func491
end Z30
namespace Z31
def F (x0:dH):aG:=(call (Z23.R x0.aQ) fun v1=>(call (Z30.R x0.bH) fun v2=>ret ((⟨v1,v2⟩:dH):dH)))
def md (a0:aI):aI:=a0
def gd (a0:aI):Prop:=aI.Sm (2^36) a0
def R:=RR gd md
theorem aj {a0}(h:gd a0):R (aI.r a0)=some (aI.r a0):=aM (a:=a0) h
def aV:=CN [.agg Aj] (.agg f293) RT.dec R
theorem bq (a0)(hg:gd a0):F (aI.r a0)=ret (aI.r (md a0)):=by
 unfold md
 show (call (Z23.R (a0.aQ.map aa.row)) fun v1=>(call (Z30.R (a0.bH.map ah.row)) fun v2=>ret ((⟨v1,v2⟩:dH):dH)))=_
 rw [call_eq (Z23.aj hg.1)]
 rw [call_eq (Z30.aj hg.2)]
 rfl
theorem af:cw 425 aV:=W1 13 F mix aD bq (.cons Z23.af (.cons Z30.af .nil)) Tryz.func425
end Z31
namespace Z32
inductive Pt where
 | p0 (a:List (List L)) (b:Int) (c:List (List L))
def pid:Pt→Nat
 | .p0 ..=>3
def bY:Pt→List V
 | .p0 a b c=>[.sl none 423 a,.own 0,.int .i64 b]
def bZ:Pt→List aU
 | .p0 a b c=>[.row 293 c]
def step (J:Pt→aG):Pt→aG
 | .p0 a b c=>(cond (decide (b<(a.length:Int))) (m2 b (a.length:Int) (call (Z31.R (dH.at a (toNat b))) fun v1=>(m2 b (c.length:Int) (J (.p0 a (i64.wrap (b+1)) (List.set c (toNat b) (dH.enc v1))))))) (ret (c:List (List L))))
def start (J:Pt→aG)(x0:List (List L)):aG:=(bX (decide ((0:Int)≤(x0.length:Int))) (bX (decide ((x0.length:Int)≤(x0.length:Int))) (bX (decide ((x0.length:Int)*48≤140737488355328)) (J (.p0 x0 0 (List.replicate (toNat (x0.length:Int)) [L.sl [],L.sl []]))))))
def live:Nat→Live:=fun i=>match i with | 3=>[(0,none),(3,none),(4,none)] | _=>[]
def md (a0:List aI):List aI:=a0
def gd (a0:List aI):Prop:=bK (2^36) (fun y:aI=>aI.Sm (2^36) y) a0
def R:=RR gd md
theorem aj {a0}(h:gd a0):R (a0.map aI.row)=some (a0.map aI.row):=aM (a:=a0) h
def aV:=CN [pL 423] (oL 293) RT.dec R
theorem bq (a0)(hg:gd a0):∃n,start (iter step n) (a0.map aI.row)=ret ((md a0).map aI.row):=by
 unfold start md
 simp only [List.length_map]
 refine jh (b:=48) (pt:=fun i c=>Pt.p0 (a0.map aI.row) (i:Int) c) (by have:=hg.1;simp at this;omega) (fun J i h c hc=>?_) (fun J c=>?_)
 ·simp only [step,MM,List.length_map,aL h,aH,bf,cF,aI.eH h,hc]
  rw [call_eq (Z31.aj (hg.get h))]
  try simp only [hc,aL h,bf]
  rw [aE (n:=a0.length) h (by have:=hg.1;simp only [maxLen];simp at this;omega)]
  rfl
 ·simp only [step,List.length_map,ef,bk]
theorem af:cw 326 aV:=L1 23 pid bY bZ live step start mix aD bq (.cons Z31.af .nil) Tryz.func326
end Z32
namespace Z33
def F (x0:cI):aG:=(call (Z32.R x0.bE) fun v1=>ret ((⟨v1,x0.gP⟩:cI):cI))
def md (a0:az):az:=a0
def gd (a0:az):Prop:=az.Sm (2^36) a0
def R:=RR gd md
theorem aj {a0}(h:gd a0):R (az.r a0)=some (az.r a0):=aM (a:=a0) h
def aV:=CN [.agg Ar] (.agg f227) RT.dec R
theorem bq (a0)(hg:gd a0):F (az.r a0)=ret (az.r (md a0)):=by
 unfold md
 show (call (Z32.R (a0.bE.map aI.row)) fun v1=>ret ((⟨v1,a0.gP⟩:cI):cI))=_
 rw [call_eq (Z32.aj hg)]
 rfl
theorem af:cw 168 aV:=W1 12 F mix aD bq (.cons Z32.af .nil) Tryz.func168
end Z33
namespace Z34
inductive Pt where
 | p0 (a:List (List L)) (b:Int) (c:List (List L))
def pid:Pt→Nat
 | .p0 ..=>3
def bY:Pt→List V
 | .p0 a b c=>[.sl none 218 a,.own 0,.int .i64 b]
def bZ:Pt→List aU
 | .p0 a b c=>[.row 227 c]
def step (J:Pt→aG):Pt→aG
 | .p0 a b c=>(cond (decide (b<(a.length:Int))) (m2 b (a.length:Int) (call (Z33.R (cI.at a (toNat b))) fun v1=>(m2 b (c.length:Int) (J (.p0 a (i64.wrap (b+1)) (List.set c (toNat b) (cI.enc v1))))))) (ret (c:List (List L))))
def start (J:Pt→aG)(x0:List (List L)):aG:=(bX (decide ((0:Int)≤(x0.length:Int))) (bX (decide ((x0.length:Int)≤(x0.length:Int))) (bX (decide ((x0.length:Int)*32≤140737488355328)) (J (.p0 x0 0 (List.replicate (toNat (x0.length:Int)) [L.sl [],L.int 0]))))))
def live:Nat→Live:=fun i=>match i with | 3=>[(0,none),(3,none),(4,none)] | _=>[]
def md (a0:List az):List az:=a0
def gd (a0:List az):Prop:=bK (2^36) (fun y:az=>az.Sm (2^36) y) a0
def R:=RR gd md
theorem aj {a0}(h:gd a0):R (a0.map az.row)=some (a0.map az.row):=aM (a:=a0) h
def aV:=CN [pL 218] (oL 227) RT.dec R
theorem bq (a0)(hg:gd a0):∃n,start (iter step n) (a0.map az.row)=ret ((md a0).map az.row):=by
 unfold start md
 simp only [List.length_map]
 refine jh (b:=32) (pt:=fun i c=>Pt.p0 (a0.map az.row) (i:Int) c) (by have:=hg.1;simp at this;omega) (fun J i h c hc=>?_) (fun J c=>?_)
 ·simp only [step,MM,List.length_map,aL h,aH,bf,cF,az.eH h,hc]
  rw [call_eq (Z33.aj (hg.get h))]
  try simp only [hc,aL h,bf]
  rw [aE (n:=a0.length) h (by have:=hg.1;simp only [maxLen];simp at this;omega)]
  rfl
 ·simp only [step,List.length_map,ef,bk]
theorem af:cw 27 aV:=L1 23 pid bY bZ live step start mix aD bq (.cons Z33.af .nil) Tryz.func27
end Z34
namespace Z35
def F (x0:bu):aG:=(bX (eU ((x0.aT.length:Int)*8)) (ret (x0:bu)))
def md (a0:aJ):aJ:=a0
def gd (a0:aJ):Prop:=(aJ.Sm (2^21) a0)
def R:=RR gd md
theorem aj {a0}(h:gd a0):R (aJ.r a0)=some (aJ.r a0):=aM (a:=a0) h
def aV:=CN [.agg qb] (.agg f98) RT.dec R
theorem bq (a0)(hg:gd a0):F (aJ.r a0)=ret (aJ.r (md a0)):=by
 unfold gd at hg
 have H0:=hg
 unfold F md
 try simp only [SS]
 refine ak (have:=(H0).1;lm) ?_
 all_goals exact fz
theorem af:cw 352 aV:=W1 10 F mix aD bq .nil Tryz.func352
end Z35
namespace Z36
def F (x0:bU):aG:=(call (Z35.R x0.bJ) fun v1=>(call (Z35.R x0.bw) fun v2=>(call (Z35.R x0.bp) fun v3=>ret ((⟨x0.bA,x0.cE,x0.bD,x0.cB,x0.cq,x0.cg,x0.cS,x0.dz,v1,v2,x0.cW,v3,x0.bB⟩:bU):bU))))
def md (a0:aC):aC:=a0
def gd (a0:aC):Prop:=(aC.Sm (2^21) a0)
def R:=RR gd md
theorem aj {a0}(h:gd a0):R (aC.r a0)=some (aC.r a0):=aM (a:=a0) h
def aV:=CN [.agg fX] (.agg f102) RT.dec R
theorem bq (a0)(hg:gd a0):F (aC.r a0)=ret (aC.r (md a0)):=by
 unfold gd at hg
 have H0:=hg
 unfold F md
 try simp only [SS]
 refine ct (Z35.aj H0.1) ?_
 try simp only [SS]
 refine ct (Z35.aj H0.2.1) ?_
 try simp only [SS]
 refine ct (Z35.aj H0.2.2) ?_
 try simp only [SS]
 all_goals exact fz
theorem af:cw 222 aV:=W1 18 F mix aD bq (.cons Z35.af .nil) Tryz.func222
end Z36
namespace Z37
def F (x0:aO):aG:=(call (Z36.R x0.aq) fun v1=>(bX (eU ((x0.bW.length:Int)*16)) (ret ((⟨v1,x0.bW⟩:aO):aO))))
def md (a0:aa):aa:=a0
def gd (a0:aa):Prop:=(aa.Sm (2^21) a0)
def R:=RR gd md
theorem aj {a0}(h:gd a0):R (aa.r a0)=some (aa.r a0):=aM (a:=a0) h
def aV:=CN [.agg kH] (.agg f123) RT.dec R
theorem bq (a0)(hg:gd a0):F (aa.r a0)=ret (aa.r (md a0)):=by
 unfold gd at hg
 have H0:=hg
 unfold F md
 try simp only [SS]
 refine ct (Z36.aj H0.1) ?_
 try simp only [SS]
 refine ak (have:=(H0.2).1;lm) ?_
 all_goals exact fz
theorem af:cw 367 aV:=W1 11 F mix aD bq (.cons Z36.af .nil) Tryz.func367
end Z37
namespace Z38
inductive Pt where
 | p0 (a:List (List L)) (b:Int) (c:List (List L))
def pid:Pt→Nat
 | .p0 ..=>3
def bY:Pt→List V
 | .p0 a b c=>[.sl none 123 a,.own 0,.int .i64 b]
def bZ:Pt→List aU
 | .p0 a b c=>[.row 123 c]
def step (J:Pt→aG):Pt→aG
 | .p0 a b c=>(cond (decide (b<(a.length:Int))) (m2 b (a.length:Int) (call (Z37.R (aO.at a (toNat b))) fun v1=>(bX (eU (((c.length:Int)+1)*200)) (J (.p0 a (i64.wrap (b+1)) (c++[(aO.enc v1)])))))) (ret (c:List (List L))))
def start (J:Pt→aG)(x0:List (List L)):aG:=J (.p0 x0 0 [])
def live:Nat→Live:=fun i=>match i with | 3=>[(0,none),(3,some 123),(4,none)] | _=>[]
def md (a0:List aa):List aa:=a0
def gd (a0:List aa):Prop:=(bK (2^21) (fun y:aa=>aa.Sm (2^21) y) a0)
def R:=RR gd md
theorem aj {a0}(h:gd a0):R (a0.map aa.row)=some (a0.map aa.row):=aM (a:=a0) h
def aV:=CN [pL 123] (oL 123) RT.dec R
theorem bq (a0)(hg:gd a0):∃n,start (iter step n) (a0.map aa.row)=ret ((md a0).map aa.row):=by
 unfold gd at hg
 have H0:=hg
 unfold start md
 try simp only [SS]
 have Bh2:a0.length≤maxLen:=(by
   have:=(H0).1
   try simp only [maxLen] at *
   omega)
 refine ex_eq (out:=(fun b:List aa=>ret ((b.map aa.row):List (List L)))) (iB (xs:=a0) (z:=aa.zero) (t:=fun s3:List aa=>s3)) ?_
 refine dN (p:=Pt.p0 (a0.map aa.row) 0 ([].map aa.row)) fz ?_
 refine ck (pt:=fun (i1:Nat) (s3:List aa)=>Pt.p0 (a0.map aa.row) (i1:Int) (s3.map aa.row)) (s:=([]:List aa)) (out:=(fun b:List aa=>ret ((b.map aa.row):List (List L)))) (fun (i1:Nat) (s3:List aa)=>s3.length≤([]:List Int).length+1*i1) (fun J i1 s3 h2 hih2=>?_) (fun s3 hih2=>?_) (by simp)
 ·simp only [step,SS]
  have gr_:=hih2
  try simp only [LN] at gr_
  have bb_:=Bh2
  simp only [maxLen] at bb_
  have:=(H0).1
  refine bt.yes (by apply decide_eq_true;omega) ?_
  refine bt.yes aH ?_
  refine bt.yes (aL h2) ?_
  refine cr (Z37.aj (bK.getD (z:=aa.zero) H0 h2)) ?_
  try simp only [SS]
  refine bt.yes lm ?_
  refine bt.inl (by
    have g_:=hih2
    try simp only [LN] at g_ ⊢
    first | omega | (simp;done) | (simp;omega)) ?_
  rw [aE h2 Bh2]
  all_goals exact fz
 ·simp only [step,SS]
  have gr_:=hih2
  try simp only [LN] at gr_
  have:=(H0).1
  refine dx (by apply decide_eq_false;omega) ?_
  refine ⟨0,?_⟩
  all_goals exact fz
theorem af:cw 244 aV:=L1 21 pid bY bZ live step start mix aD bq (.cons Z37.af .nil) Tryz.func244
end Z38
namespace Z39
def F (x0:bF):aG:=(call (Z37.R x0.aP) fun v1=>(call (Z37.R x0.fA) fun v2=>(call (Z37.R x0.fB) fun v3=>ret ((⟨v1,v2,v3⟩:bF):bF))))
def md (a0:aB):aB:=a0
def gd (a0:aB):Prop:=(aB.Sm (2^21) a0)
def R:=RR gd md
theorem aj {a0}(h:gd a0):R (aB.r a0)=some (aB.r a0):=aM (a:=a0) h
def aV:=CN [.agg sQ] (.agg f280) RT.dec R
theorem bq (a0)(hg:gd a0):F (aB.r a0)=ret (aB.r (md a0)):=by
 unfold gd at hg
 have H0:=hg
 unfold F md
 try simp only [SS]
 refine ct (Z37.aj H0.1) ?_
 try simp only [SS]
 refine ct (Z37.aj H0.2.1) ?_
 try simp only [SS]
 refine ct (Z37.aj H0.2.2) ?_
 try simp only [SS]
 all_goals exact fz
theorem af:cw 323 aV:=W1 13 F mix aD bq (.cons Z37.af .nil) Tryz.func323
end Z39
namespace Z40
inductive Pt where
 | p0 (a:Int) (b:bn) (c:List (List L))
 | p1 (a:Int) (b:bn) (c:List (List L)) (d:List (List L))
def pid:Pt→Nat
 | .p0 ..=>3
 | .p1 ..=>7
def bY:Pt→List V
 | .p0 a b c=>[.dc 0 0,.dc 1 0,.dc 2 0,.int .i64 a,.dc 2 0]
 | .p1 a b c d=>[.dc 0 0,.dc 1 0,.dc 2 0,.int .i64 a,.dc 2 0,.dc 2 0]
def bZ:Pt→List aU
 | .p0 a b c=>[.box [.sl none 92 b.aF,.sl none 280 b.bg],.box [.nil,.nil],.box [.own 3,.nil],.row 92 c]
 | .p1 a b c d=>[.box [.sl none 92 b.aF,.sl none 280 b.bg],.box [.nil,.nil],.box [.own 3,.own 4],.row 92 c,.row 280 d]
def step (J:Pt→aG):Pt→aG
 | .p0 a b c=>(cond (decide (a<(b.aF.length:Int))) (m2 a (b.aF.length:Int) (call (Z38.R (oO b.aF (toNat a))) fun v1=>(bX (eU (((c.length:Int)+1)*24)) (J (.p0 (i64.wrap (a+1)) b (c++[[L.sl v1]])))))) (J (.p1 0 b c [])))
 | .p1 a b c d=>(cond (decide (a<(b.bg.length:Int))) (m2 a (b.bg.length:Int) (call (Z39.R (bF.at b.bg (toNat a))) fun v1=>(bX (eU (((d.length:Int)+1)*600)) (J (.p1 (i64.wrap (a+1)) b c (d++[(bF.enc v1)])))))) (ret ((⟨c,d⟩:bn):bn)))
def start (J:Pt→aG)(x0:bn):aG:=J (.p0 0 x0 [])
def live:Nat→Live:=fun i=>match i with | 3=>[(1,none),(2,none),(3,none),(4,none),(3,some 92)] | 7=>[(1,none),(2,none),(3,none),(5,none),(3,some 92),(3,some 1048856)] | _=>[]
def md (a0:au):au:=a0
def gd (a0:au):Prop:=(au.Sm (2^21) a0)
def R:=RR gd md
theorem aj {a0}(h:gd a0):R (au.r a0)=some (au.r a0):=aM (a:=a0) h
def aV:=CN [.agg tI] (.agg f37) RT.dec R
theorem bq (a0)(hg:gd a0):∃n,start (iter step n) (au.r a0)=ret (au.r (md a0)):=by
 unfold gd at hg
 have H0:=hg
 unfold start md
 try simp only [SS]
 have Bh2:a0.aF.length≤maxLen:=(by
   have:=(H0.1).1
   try simp only [maxLen] at *
   omega)
 refine ex_eq (out:=(fun b:au=>ret ((au.r b):bn))) (iB (xs:=a0.aF) (z:=[]) (t:=fun s3:List (List aa)=>(⟨s3,a0.bg⟩:au))) ?_
 refine dN (p:=Pt.p0 0 (au.r a0) ([].map (dK aa.row))) fz ?_
 refine ck (pt:=fun (i1:Nat) (s3:List (List aa))=>Pt.p0 (i1:Int) (au.r a0) (s3.map (dK aa.row))) (s:=([]:List (List aa))) (out:=(fun b:au=>ret ((au.r b):bn))) (fun (i1:Nat) (s3:List (List aa))=>s3.length≤([]:List Int).length+1*i1) (fun J i1 s3 h2 hih2=>?_) (fun s3 hih2=>?_) (by simp)
 ·simp only [step,SS]
  have gr_:=hih2
  try simp only [LN] at gr_
  have bb_:=Bh2
  simp only [maxLen] at bb_
  have:=(H0.1).1
  refine bt.yes (by apply decide_eq_true;omega) ?_
  refine bt.yes aH ?_
  refine bt.yes (aL h2) ?_
  refine cr (Z38.aj (bK.getD (z:=[]) H0.1 h2)) ?_
  try simp only [SS]
  refine bt.yes lm ?_
  refine bt.inl (by
    have g_:=hih2
    try simp only [LN] at g_ ⊢
    first | omega | (simp;done) | (simp;omega)) ?_
  rw [aE h2 Bh2]
  all_goals exact fz
 ·simp only [step,SS]
  have gr_:=hih2
  try simp only [LN] at gr_
  have:=(H0.1).1
  refine dx (by apply decide_eq_false;omega) ?_
  have Bh5:a0.bg.length≤maxLen:=(by
    have:=(H0.2).1
    try simp only [maxLen] at *
    omega)
  refine ex_eq (out:=(fun b:au=>ret ((au.r b):bn))) (iB (xs:=a0.bg) (z:=aB.zero) (t:=fun s6:List aB=>(⟨s3,s6⟩:au))) ?_
  refine dN (p:=Pt.p1 0 (au.r a0) (s3.map (dK aa.row)) ([].map aB.row)) fz ?_
  refine ck (pt:=fun (i4:Nat) (s6:List aB)=>Pt.p1 (i4:Int) (au.r a0) (s3.map (dK aa.row)) (s6.map aB.row)) (s:=([]:List aB)) (out:=(fun b:au=>ret ((au.r b):bn))) (fun (i4:Nat) (s6:List aB)=>s6.length≤([]:List Int).length+1*i4) (fun J i4 s6 h5 hih5=>?_) (fun s6 hih5=>?_) (by simp)
  ·simp only [step,SS]
   have gr_:=hih5
   try simp only [LN] at gr_
   have bb_:=Bh5
   simp only [maxLen] at bb_
   have:=(H0.2).1
   refine bt.yes (by apply decide_eq_true;omega) ?_
   refine bt.yes aH ?_
   refine bt.yes (aL h5) ?_
   refine cr (Z39.aj (bK.getD (z:=aB.zero) H0.2 h5)) ?_
   try simp only [SS]
   refine bt.yes lm ?_
   refine bt.inl (by
     have g_:=hih5
     try simp only [LN] at g_ ⊢
     first | omega | (simp;done) | (simp;omega)) ?_
   rw [aE h5 Bh5]
   all_goals exact fz
  ·simp only [step,SS]
   have gr_:=hih5
   try simp only [LN] at gr_
   have:=(H0.2).1
   refine dx (by apply decide_eq_false;omega) ?_
   refine ⟨0,?_⟩
   all_goals exact fz
theorem af:cw 165 aV:=L1 44 pid bY bZ live step start mix aD bq (.cons Z38.af (.cons Z39.af .nil)) Tryz.func165
end Z40
namespace Z41
def F (x0:Int)(x1:Int)(x2:Int):aG:=(cond (decide (x0≥x1)) (ret ((decide (x0≤x2)):Bool)) (ret (false:Bool)))
def md (a0:Int)(a1:Int)(a2:Int):Bool:=(cond (decide (a0≥a1)) ((decide (a0≤a2)):Bool) (false:Bool))
def gd (a0:Int)(a1:Int)(a2:Int):Prop:=True
def R:=RR (p3 gd) (u3 md)
theorem aj {a0 a1 a2}(h:gd a0 a1 a2):R (a0,a1,a2)=some (md a0 a1 a2):=aM (a:=(a0,a1,a2)) h
def aV:=CN [pI,pI,pI] oB RT.dec R
theorem bq (a0)(a1)(a2)(hg:gd a0 a1 a2):F a0 a1 a2=ret (md a0 a1 a2):=by
 unfold F md
 try simp only [SS]
 refine av ret (fun c1=>?_) (fun _=>rfl)
 all_goals exact fz
theorem af:cw 224 aV:=W3 15 F mix aD bq .nil Tryz.func224
end Z41
namespace Z42
inductive Pt where
 | p0 (a:ByteArray) (b:Int)
def pid:Pt→Nat
 | .p0 ..=>4
def bY:Pt→List V
 | .p0 a b=>[.str a,.int .i64 b]
def bZ:Pt→List aU
 | .p0 a b=>[]
def step (J:Pt→aG):Pt→aG
 | .p0 a b=>(cond (decide (b<(a.size:Int))) (m2 b (a.size:Int) (cond (decide ((ec a (toNat b))<97)) (m2 b (a.size:Int) (cond (decide ((ec a (toNat b))<48)) (m2 b (a.size:Int) (cond ((ec a (toNat b)) != 45) (ret (false:Bool)) (J (.p0 a (i64.wrap (b+1)))))) (m2 b (a.size:Int) (cond (decide ((ec a (toNat b))>57)) (m2 b (a.size:Int) (cond ((ec a (toNat b)) != 45) (ret (false:Bool)) (J (.p0 a (i64.wrap (b+1)))))) (J (.p0 a (i64.wrap (b+1)))))))) (m2 b (a.size:Int) (cond (decide ((ec a (toNat b))>122)) (m2 b (a.size:Int) (cond (decide ((ec a (toNat b))<48)) (m2 b (a.size:Int) (cond ((ec a (toNat b)) != 45) (ret (false:Bool)) (J (.p0 a (i64.wrap (b+1)))))) (m2 b (a.size:Int) (cond (decide ((ec a (toNat b))>57)) (m2 b (a.size:Int) (cond ((ec a (toNat b)) != 45) (ret (false:Bool)) (J (.p0 a (i64.wrap (b+1)))))) (J (.p0 a (i64.wrap (b+1)))))))) (J (.p0 a (i64.wrap (b+1)))))))) (ret (true:Bool)))
def start (J:Pt→aG)(x0:ByteArray):aG:=(call (Z41.R ((x0.size:Int),1,8)) fun v1=>(cond (!v1) (ret (false:Bool)) (bX (decide ((0:Int)<(x0.size:Int))) (cond ((ec x0 0)==45) (ret (false:Bool)) (bX (decide ((0:Int)≤(i64.wrap ((x0.size:Int) - 1)))) (bX (decide ((i64.wrap ((x0.size:Int) - 1))<(x0.size:Int))) (cond ((ec x0 (toNat (i64.wrap ((x0.size:Int) - 1))))==45) (ret (false:Bool)) (J (.p0 x0 0)))))))))
def live:Nat→Live:=fun i=>match i with | 4=>[(0,none),(3,none)] | _=>[]
def md (a0:ByteArray):Bool:=(bif (!(Z41.md (a0.size:Int) 1 8)) then (false:Bool) else (bif ((ec a0 0)==45) then (false:Bool) else (bif ((ec a0 (toNat (i64.wrap ((a0.size:Int) - 1))))==45) then (false:Bool) else (eg (S:=Unit) (β:=Bool) (fun (i4:Nat) (s6:Unit)=>(cond (decide ((ec a0 i4)<97)) (cond (decide ((ec a0 i4)<48)) (cond ((ec a0 i4) != 45) (.inr (false:Bool)) (.inl ())) (cond (decide ((ec a0 i4)>57)) (cond ((ec a0 i4) != 45) (.inr (false:Bool)) (.inl ())) (.inl ()))) (cond (decide ((ec a0 i4)>122)) (cond (decide ((ec a0 i4)<48)) (cond ((ec a0 i4) != 45) (.inr (false:Bool)) (.inl ())) (cond (decide ((ec a0 i4)>57)) (cond ((ec a0 i4) != 45) (.inr (false:Bool)) (.inl ())) (.inl ()))) (.inl ())))) (fun (s6:Unit)=>(true:Bool)) a0.size 0 ()))))
def gd (a0:ByteArray):Prop:=(a0.size≤(2^22))
def R:=RR gd md
theorem aj {a0}(h:gd a0):R a0=some (md a0):=aM (a:=a0) h
def aV:=CN [pS] oB RT.dec R
theorem bq (a0)(hg:gd a0):∃n,start (iter step n) a0=ret (md a0):=by
 unfold gd at hg
 have H0:=hg
 unfold start md
 try simp only [SS]
 refine cx (Z41.aj trivial) ?_
 refine gT ret (fun _=>⟨0,rfl⟩) (fun c1=>?_)
 have dc1:=c1
 try simp only [DC] at dc1
 have Dc1:=c1
 try simp [Z41.md] at Dc1
 refine dI (have:=H0;dt) ?_
 refine gT ret (fun _=>⟨0,rfl⟩) (fun c2=>?_)
 have dc2:=c2
 try simp only [DC] at dc2
 refine dI (have:=H0;dt) ?_
 refine dI (have:=H0;dt) ?_
 refine gT ret (fun _=>⟨0,rfl⟩) (fun c3=>?_)
 have dc3:=c3
 try simp only [DC] at dc3
 have Bh5:a0.size≤maxLen:=(by
   have:=H0
   try simp only [maxLen] at *
   omega)
 refine dN (p:=Pt.p0 a0 0) fz ?_
 refine ck (pt:=fun (i4:Nat) (s6:Unit)=>Pt.p0 a0 (i4:Int)) (s:=(():Unit)) (out:=ret) (fun _ _=>True) (fun J i4 s6 h5 hih5=>?_) (fun s6 hih5=>?_) trivial
 ·simp only [step,SS]
  have bb_:=Bh5
  simp only [maxLen] at bb_
  have:=H0
  refine bt.yes (by apply decide_eq_true;omega) ?_
  refine bt.yes aH ?_
  refine bt.yes (aL h5) ?_
  refine bt.bif (fun c7=>?_) (fun c7=>?_)
  ·refine bt.yes aH ?_
   refine bt.yes (aL h5) ?_
   refine bt.bif (fun c8=>?_) (fun c8=>?_)
   ·refine bt.yes aH ?_
    refine bt.yes (aL h5) ?_
    refine bt.bif (fun _=>bt.inr rfl) (fun c9=>?_)
    refine bt.inl trivial ?_
    rw [aE h5 Bh5]
    all_goals exact fz
   ·refine bt.yes aH ?_
    refine bt.yes (aL h5) ?_
    refine bt.bif (fun c10=>?_) (fun c10=>?_)
    ·refine bt.yes aH ?_
     refine bt.yes (aL h5) ?_
     refine bt.bif (fun _=>bt.inr rfl) (fun c11=>?_)
     refine bt.inl trivial ?_
     rw [aE h5 Bh5]
     all_goals exact fz
    ·refine bt.inl trivial ?_
     rw [aE h5 Bh5]
     all_goals exact fz
  ·refine bt.yes aH ?_
   refine bt.yes (aL h5) ?_
   refine bt.bif (fun c12=>?_) (fun c12=>?_)
   ·refine bt.yes aH ?_
    refine bt.yes (aL h5) ?_
    refine bt.bif (fun c13=>?_) (fun c13=>?_)
    ·refine bt.yes aH ?_
     refine bt.yes (aL h5) ?_
     refine bt.bif (fun _=>bt.inr rfl) (fun c14=>?_)
     refine bt.inl trivial ?_
     rw [aE h5 Bh5]
     all_goals exact fz
    ·refine bt.yes aH ?_
     refine bt.yes (aL h5) ?_
     refine bt.bif (fun c15=>?_) (fun c15=>?_)
     ·refine bt.yes aH ?_
      refine bt.yes (aL h5) ?_
      refine bt.bif (fun _=>bt.inr rfl) (fun c16=>?_)
      refine bt.inl trivial ?_
      rw [aE h5 Bh5]
      all_goals exact fz
     ·refine bt.inl trivial ?_
      rw [aE h5 Bh5]
      all_goals exact fz
   ·refine bt.inl trivial ?_
    rw [aE h5 Bh5]
    all_goals exact fz
 ·simp only [step,SS]
  have:=H0
  refine dx (by apply decide_eq_false;omega) ?_
  refine ⟨0,?_⟩
  all_goals exact fz
theorem af:cw 308 aV:=L1 55 pid bY bZ live step start mix aD bq (.cons Z41.af .nil) Tryz.func308
theorem tr {a0:ByteArray}(h:md a0=true):1≤a0.size∧a0.size≤8:=by
 unfold md at h
 cases e:Z41.md (a0.size:Int) 1 8
 ·rw [e] at h;cases h
 ·simp [Z41.md] at e;omega
end Z42
namespace Z43
inductive Pt where
 | p0 (a:List (List L)) (b:Int)
def pid:Pt→Nat
 | .p0 ..=>2
def bY:Pt→List V
 | .p0 a b=>[.sl none 9 a,.int .i64 b]
def bZ:Pt→List aU
 | .p0 a b=>[]
def step (J:Pt→aG):Pt→aG
 | .p0 a b=>(cond (decide (b<(a.length:Int))) (m2 b (a.length:Int) (call (Z42.R (pZ a (toNat b))) fun v1=>(cond (!v1) (ret (false:Bool)) (J (.p0 a (i64.wrap (b+1))))))) (call (Z41.R ((a.length:Int),1,4)) fun v2=>ret (v2:Bool)))
def start (J:Pt→aG)(x0:List (List L)):aG:=J (.p0 x0 0)
def live:Nat→Live:=fun i=>match i with | 2=>[(0,none),(3,none)] | _=>[]
def md (a0:List ByteArray):Bool:=(dW (S:=Unit) (β:=Bool) (fun (y1:ByteArray) (s3:Unit)=>(cond (!(Z42.md y1)) (.inr (false:Bool)) (.inl ()))) (fun (s3:Unit)=>((Z41.md (a0.length:Int) 1 4):Bool)) a0 ())
def gd (a0:List ByteArray):Prop:=(bK (2^22) (fun y:ByteArray=>y.size≤(2^22)) a0)
def R:=RR gd md
theorem aj {a0}(h:gd a0):R (a0.map cA)=some (md a0):=aM (a:=a0) h
def aV:=CN [pL 9] oB RT.dec R
theorem bq (a0)(hg:gd a0):∃n,start (iter step n) (a0.map cA)=ret (md a0):=by
 unfold gd at hg
 have H0:=hg
 unfold start md
 try simp only [SS]
 have Bh2:a0.length≤maxLen:=(by
   have:=(H0).1
   try simp only [maxLen] at *
   omega)
 refine ex_eq (out:=ret) (eE (z:=⟨#[]⟩)) ?_
 refine dN (p:=Pt.p0 (a0.map cA) 0) fz ?_
 refine ck (pt:=fun (i1:Nat) (s3:Unit)=>Pt.p0 (a0.map cA) (i1:Int)) (s:=(():Unit)) (out:=ret) (fun _ _=>True) (fun J i1 s3 h2 hih2=>?_) (fun s3 hih2=>?_) trivial
 ·simp only [step,SS]
  have bb_:=Bh2
  simp only [maxLen] at bb_
  have:=(H0).1
  refine bt.yes (by apply decide_eq_true;omega) ?_
  refine bt.yes aH ?_
  refine bt.yes (aL h2) ?_
  refine cr (Z42.aj (bK.getD (z:=⟨#[]⟩) H0 h2)) ?_
  refine bt.bif (fun _=>bt.inr rfl) (fun c4=>?_)
  refine bt.inl trivial ?_
  rw [aE h2 Bh2]
  all_goals exact fz
 ·simp only [step,SS]
  have:=(H0).1
  refine dx (by apply decide_eq_false;omega) ?_
  refine cx (Z41.aj trivial) ?_
  refine ⟨0,?_⟩
  all_goals exact fz
theorem af:cw 132 aV:=L1 19 pid bY bZ live step start mix aD bq (.cons Z42.af (.cons Z41.af .nil)) Tryz.func132
theorem tr {a0:List ByteArray}(h:md a0=true):(1≤a0.length∧a0.length≤4)∧∀x∈a0,x.size≤8:=by
 have e:=lQ (p:=fun y=>!(Z42.md y)) (b:=false) (c:=Z41.md (a0.length:Int) 1 4) (xs:=a0) (s:=())
 rw [show md a0=_ from e] at h
 cases ha:a0.any (fun y=>!(Z42.md y))<;>rw [ha] at h
 ·have h2:Z41.md (a0.length:Int) 1 4=true:=h
  simp [Z41.md] at h2
  refine ⟨by omega,fun x hx=>?_⟩
  rw [List.any_eq_false] at ha
  have:=ha x hx
  exact (Z42.tr (by simpa using this)).2
 ·cases h
theorem tl {x:ByteArray}{xs:List ByteArray}(h:md (x::xs)=true)(hx:¬xs.length=0):md xs=true:=by
 have key:∀a:List ByteArray,md a=bif a.any (fun y=>!(Z42.md y)) then false else Z41.md (a.length:Int) 1 4:=fun a=>lQ (p:=fun y=>!(Z42.md y)) (b:=false) (c:=Z41.md (a.length:Int) 1 4) (xs:=a) (s:=())
 have t:=tr h
 simp only [List.length_cons] at t
 rw [key] at h ⊢
 rw [List.any_cons] at h
 cases h1:xs.any (fun y=>!(Z42.md y)) with
 | true=>rw [h1,Bool.or_true] at h;cases h
 | false=>simp [Z41.md];omega
end Z43
namespace Z44
def F (x0:List (List L)):aG:=(bX (eU ((x0.length:Int)*16)) (ret (x0:List (List L))))
def md (a0:List ByteArray):List ByteArray:=a0
def gd (a0:List ByteArray):Prop:=(bK (2^21) (fun y:ByteArray=>y.size≤(2^21)) a0)
def R:=RR gd md
theorem aj {a0}(h:gd a0):R (a0.map cA)=some (a0.map cA):=aM (a:=a0) h
def aV:=CN [pL 9] (oL 9) RT.dec R
theorem bq (a0)(hg:gd a0):F (a0.map cA)=ret ((md a0).map cA):=by
 unfold gd at hg
 have H0:=hg
 unfold F md
 try simp only [SS]
 refine ak (have:=(H0).1;lm) ?_
 all_goals exact fz
theorem af:cw 208 aV:=W1 6 F mix aD bq .nil Tryz.func208
end Z44
namespace Z45
inductive Pt where
 | p0 (a:Int) (b:bu)
def pid:Pt→Nat
 | .p0 ..=>2
def bY:Pt→List V
 | .p0 a b=>[.dc 0 0,.int .i64 a]
def bZ:Pt→List aU
 | .p0 a b=>[.box [.sl none 3 b.aT,.int .i64 b.cu]]
def step (J:Pt→aG):Pt→aG
 | .p0 a b=>(cond (decide (a<(b.aT.length:Int))) (m2 a (b.aT.length:Int) (call (Z41.R ((jv b.aT (toNat a)),1,99)) fun v1=>(cond (!v1) (ret (false:Bool)) (cond (decide (a>0)) (bX (decide ((0:Int)≤(i64.wrap (a - 1)))) (bX (decide ((i64.wrap (a - 1))<(b.aT.length:Int))) (m2 a (b.aT.length:Int) (cond (decide ((jv b.aT (toNat (i64.wrap (a - 1))))≥(jv b.aT (toNat a)))) (ret (false:Bool)) (J (.p0 (i64.wrap (a+1)) b)))))) (J (.p0 (i64.wrap (a+1)) b)))))) (call (Z41.R ((b.aT.length:Int),1,4)) fun v2=>(cond v2 (call (Z41.R (b.cu,1,(b.aT.length:Int))) fun v3=>ret (v3:Bool)) (ret (false:Bool)))))
def start (J:Pt→aG)(x0:bu):aG:=J (.p0 0 x0)
def live:Nat→Live:=fun i=>match i with | 2=>[(1,none),(3,none)] | _=>[]
def md (a0:aJ):Bool:=(dS (S:=Unit) (β:=Bool) (fun (i1:Nat) (y1:Int) (s3:Unit)=>(cond (!(Z41.md y1 1 99)) (.inr (false:Bool)) (cond (decide ((i1:Int)>0)) (cond (decide ((a0.aT.getD (toNat (i64.wrap ((i1:Int) - 1))) 0)≥y1)) (.inr (false:Bool)) (.inl ())) (.inl ())))) (fun (s3:Unit)=>(cond (Z41.md (a0.aT.length:Int) 1 4) ((Z41.md a0.cu 1 (a0.aT.length:Int)):Bool) (false:Bool))) 0 a0.aT ())
def gd (a0:aJ):Prop:=(aJ.Sm (2^21) a0)
def R:=RR gd md
theorem aj {a0}(h:gd a0):R (aJ.r a0)=some (md a0):=aM (a:=a0) h
def aV:=CN [.agg qb] oB RT.dec R
theorem bq (a0)(hg:gd a0):∃n,start (iter step n) (aJ.r a0)=ret (md a0):=by
 unfold gd at hg
 have H0:=hg
 unfold start md
 try simp only [SS]
 have Bh2:a0.aT.length≤maxLen:=(by
   have:=(H0).1
   try simp only [maxLen] at *
   omega)
 refine ex_eq (out:=ret) (cX (z:=0)) ?_
 refine dN (p:=Pt.p0 0 (aJ.r a0)) fz ?_
 refine ck (pt:=fun (i1:Nat) (s3:Unit)=>Pt.p0 (i1:Int) (aJ.r a0)) (s:=(():Unit)) (out:=ret) (fun _ _=>True) (fun J i1 s3 h2 hih2=>?_) (fun s3 hih2=>?_) trivial
 ·simp only [step,SS]
  have bb_:=Bh2
  simp only [maxLen] at bb_
  have:=(H0).1
  refine bt.yes (by apply decide_eq_true;omega) ?_
  refine bt.yes aH ?_
  refine bt.yes (aL h2) ?_
  refine cr (Z41.aj trivial) ?_
  refine bt.bif (fun _=>bt.inr rfl) (fun c4=>?_)
  have dc4:=c4
  try simp only [DC] at dc4
  have Dc4:=c4
  try simp [Z41.md] at Dc4
  refine bt.bif (fun c5=>?_) (fun c5=>?_)
  ·have dc5:=c5
   try simp only [DC] at dc5
   refine bt.yes dt ?_
   refine bt.yes (have:=(H0).1;dt) ?_
   refine bt.yes aH ?_
   refine bt.yes (aL h2) ?_
   refine bt.bif (fun _=>bt.inr rfl) (fun c6=>?_)
   refine bt.inl trivial ?_
   rw [aE h2 Bh2]
   all_goals exact fz
  ·refine bt.inl trivial ?_
   rw [aE h2 Bh2]
   all_goals exact fz
 ·simp only [step,SS]
  have:=(H0).1
  refine dx (by apply decide_eq_false;omega) ?_
  refine cx (Z41.aj trivial) ?_
  refine gT ret (fun c7=>?_) (fun _=>⟨0,rfl⟩)
  refine cx (Z41.aj trivial) ?_
  refine ⟨0,?_⟩
  all_goals exact fz
theorem af:cw 514 aV:=L1 48 pid bY bZ live step start mix aD bq (.cons Z41.af .nil) Tryz.func514
theorem tr {a0:aJ}(h:md a0=true):1≤a0.aT.length∧a0.aT.length≤4:=by
 refine Classical.byContradiction fun hc=>?_
 have e1:Z41.md (a0.aT.length:Int) 1 4=false:=by simp [Z41.md];omega
 unfold md at h
 rw [e1] at h
 have e2:∀s:Unit,(cond false (Z41.md a0.cu 1 (a0.aT.length:Int)) false)=false:=fun _=>rfl
 have h3:=lg (c:=false) (f:=fun (i1:Nat) (y1:Int) (s3:Unit)=>(cond (!(Z41.md y1 1 99)) (.inr (false:Bool)) (cond (decide ((i1:Int)>0)) (cond (decide ((a0.aT.getD (toNat (i64.wrap ((i1:Int) - 1))) 0)≥y1)) (.inr (false:Bool)) (.inl ())) (.inl ())))) (by
  intro i x s b h
  revert h
  simp only [Bool.cond_eq_ite]
  repeat' split
  all_goals (intro h;first | (cases h;rfl) | cases h)) a0.aT 0 ()
 simp only [bk] at h
 rw [h3] at h
 cases h
end Z45
namespace Z46
def F (x0:bu):aG:=(cond (x0.cu==0) (ret (((x0.aT.length:Int)==0):Bool)) (ret (false:Bool)))
def md (a0:aJ):Bool:=(cond (a0.cu==0) (((a0.aT.length:Int)==0):Bool) (false:Bool))
def gd (a0:aJ):Prop:=True
def R:=RR gd md
theorem aj {a0}(h:gd a0):R (aJ.r a0)=some (md a0):=aM (a:=a0) h
def aV:=CN [.agg qb] oB RT.dec R
theorem bq (a0)(hg:gd a0):F (aJ.r a0)=ret (md a0):=by
 unfold F md
 try simp only [SS]
 refine av ret (fun c1=>?_) (fun _=>rfl)
 all_goals exact fz
theorem af:cw 515 aV:=W1 12 F mix aD bq .nil Tryz.func515
end Z46
namespace Z47
def F (x0:bU):aG:=(call (Z41.R (x0.bA,0,2147483646)) fun v1=>(cond (!v1) (ret (false:Bool)) (call (Z41.R (x0.cS,0,2147483646)) fun v2=>(cond (!v2) (ret (false:Bool)) (call (Z41.R (x0.dz,0,2147483646)) fun v3=>(cond (!v3) (ret (false:Bool)) (call (Z41.R (x0.cE,0,200)) fun v4=>(cond (!v4) (ret (false:Bool)) (call (Z41.R (x0.bD,1,3)) fun v5=>(cond (!v5) (ret (false:Bool)) (call (Z41.R (x0.cB,0,100000)) fun v6=>(cond (!v6) (ret (false:Bool)) (call (Z41.R (x0.cq,x0.cB,100000)) fun v7=>(cond (!v7) (ret (false:Bool)) (cond (decide ((i64.wrap (x0.cq - x0.cB))>200)) (ret (false:Bool)) (call (Z41.R (x0.cg,0,12)) fun v8=>(cond (!v8) (ret (false:Bool)) (call (Z45.R x0.bJ) fun v9=>(cond (!v9) (ret (false:Bool)) (call (Z46.R x0.bw) fun v10=>(cond v10 (cond (x0.cW != 0) (ret (false:Bool)) (call (Z45.R x0.bp) fun v11=>(cond v11 (ret (true:Bool)) (call (Z46.R x0.bp) fun v12=>(cond v12 (ret ((!x0.bB):Bool)) (ret (false:Bool))))))) (call (Z45.R x0.bw) fun v13=>(cond (!v13) (ret (false:Bool)) (call (Z41.R (x0.cW,1,500)) fun v14=>(cond (!v14) (ret (false:Bool)) (call (Z45.R x0.bp) fun v15=>(cond v15 (ret (true:Bool)) (call (Z46.R x0.bp) fun v16=>(cond v16 (ret ((!x0.bB):Bool)) (ret (false:Bool)))))))))))))))))))))))))))))))
def md (a0:aC):Bool:=(cond (!(Z41.md a0.bA 0 2147483646)) (false:Bool) (cond (!(Z41.md a0.cS 0 2147483646)) (false:Bool) (cond (!(Z41.md a0.dz 0 2147483646)) (false:Bool) (cond (!(Z41.md a0.cE 0 200)) (false:Bool) (cond (!(Z41.md a0.bD 1 3)) (false:Bool) (cond (!(Z41.md a0.cB 0 100000)) (false:Bool) (cond (!(Z41.md a0.cq a0.cB 100000)) (false:Bool) (cond (decide ((i64.wrap (a0.cq - a0.cB))>200)) (false:Bool) (cond (!(Z41.md a0.cg 0 12)) (false:Bool) (cond (!(Z45.md a0.bJ)) (false:Bool) (cond (Z46.md a0.bw) (cond (a0.cW != 0) (false:Bool) (cond (Z45.md a0.bp) (true:Bool) (cond (Z46.md a0.bp) ((!a0.bB):Bool) (false:Bool)))) (cond (!(Z45.md a0.bw)) (false:Bool) (cond (!(Z41.md a0.cW 1 500)) (false:Bool) (cond (Z45.md a0.bp) (true:Bool) (cond (Z46.md a0.bp) ((!a0.bB):Bool) (false:Bool))))))))))))))))
def gd (a0:aC):Prop:=(aC.Sm (2^21) a0)
def R:=RR gd md
theorem aj {a0}(h:gd a0):R (aC.r a0)=some (md a0):=aM (a:=a0) h
def aV:=CN [.agg fX] oB RT.dec R
theorem bq (a0)(hg:gd a0):F (aC.r a0)=ret (md a0):=by
 unfold gd at hg
 have H0:=hg
 unfold F md
 try simp only [SS]
 refine ct (Z41.aj trivial) ?_
 refine av ret (fun _=>rfl) (fun c1=>?_)
 refine ct (Z41.aj trivial) ?_
 refine av ret (fun _=>rfl) (fun c2=>?_)
 refine ct (Z41.aj trivial) ?_
 refine av ret (fun _=>rfl) (fun c3=>?_)
 refine ct (Z41.aj trivial) ?_
 refine av ret (fun _=>rfl) (fun c4=>?_)
 refine ct (Z41.aj trivial) ?_
 refine av ret (fun _=>rfl) (fun c5=>?_)
 refine ct (Z41.aj trivial) ?_
 refine av ret (fun _=>rfl) (fun c6=>?_)
 refine ct (Z41.aj trivial) ?_
 refine av ret (fun _=>rfl) (fun c7=>?_)
 refine av ret (fun _=>rfl) (fun c8=>?_)
 refine ct (Z41.aj trivial) ?_
 refine av ret (fun _=>rfl) (fun c9=>?_)
 refine ct (Z45.aj H0.1) ?_
 refine av ret (fun _=>rfl) (fun c10=>?_)
 refine ct (Z46.aj trivial) ?_
 refine av ret (fun c11=>?_) (fun c11=>?_)
 ·refine av ret (fun _=>rfl) (fun c12=>?_)
  refine ct (Z45.aj H0.2.2) ?_
  refine av ret (fun _=>rfl) (fun c13=>?_)
  refine ct (Z46.aj trivial) ?_
  refine av ret (fun c14=>?_) (fun _=>rfl)
  all_goals exact fz
 ·refine ct (Z45.aj H0.2.1) ?_
  refine av ret (fun _=>rfl) (fun c15=>?_)
  refine ct (Z41.aj trivial) ?_
  refine av ret (fun _=>rfl) (fun c16=>?_)
  refine ct (Z45.aj H0.2.2) ?_
  refine av ret (fun _=>rfl) (fun c17=>?_)
  refine ct (Z46.aj trivial) ?_
  refine av ret (fun c18=>?_) (fun _=>rfl)
  all_goals exact fz
theorem af:cw 438 aV:=W1 92 F mix aD bq (.cons Z41.af (.cons Z45.af (.cons Z46.af .nil))) Tryz.func438
theorem tr {a0:aC}(h:md a0=true):(1≤a0.bD∧a0.bD≤3)∧0≤a0.cB∧a0.cB≤a0.cq∧a0.cq≤100000∧0≤a0.cg∧a0.cg≤12:=by
 have key:∀x y z:Int,Z41.md x y z=true→y≤x∧x≤z:=fun x y z h=>by simpa [Z41.md] using h
 unfold md at h
 simp only [AU,Bool.not_not,Bool.and_eq_true] at h
 obtain ⟨_,_,_,_,h5,h6,h7,_,h8,_⟩:=h
 have:=key _ _ _ h5
 have:=key _ _ _ h6
 have:=key _ _ _ h7
 have:=key _ _ _ h8
 omega
end Z47
namespace Z48
def F (x0:bu):aG:=(bX (eU (((2:Int)+(x0.aT.length:Int))*8)) (ret (([[L.int x0.cu],[L.int (x0.aT.length:Int)]]++x0.aT):List (List L))))
def md (a0:aJ):List Int:=([a0.cu,(a0.aT.length:Int)]++a0.aT)
def gd (a0:aJ):Prop:=(aJ.Sm (2^21) a0)
def R:=RR gd md
theorem aj {a0}(h:gd a0):R (aJ.r a0)=some ((md a0).map aZ):=aM (a:=a0) h
def aV:=CN [.agg qb] (oL 3) RT.dec R
theorem bq (a0)(hg:gd a0):F (aJ.r a0)=ret ((md a0).map aZ):=by
 unfold gd at hg
 have H0:=hg
 unfold F md
 try simp only [SS]
 refine ak (have:=(H0).1;lm) ?_
 all_goals exact fz
theorem af:cw 517 aV:=W1 12 F mix aD bq .nil Tryz.func517
theorem len (a0:aJ):(md a0).length=2+a0.aT.length:=by simp [md];omega
end Z48
namespace Z49
def F (x0:Int)(x1:Int):aG:=(call (Z41.R (x1,1,1000000000000)) fun v1=>(cond (!v1) (ret (0:Int)) (cond (decide (x1=0)) none (cond (decide (x1=0)) none (ret ((Int.tmod (i64.wrap ((Int.tmod x0 x1)+x1)) x1):Int))))))
def md (a0:Int)(a1:Int):Int:=(cond (!(Z41.md a1 1 1000000000000)) (0:Int) ((Int.tmod (i64.wrap ((Int.tmod a0 a1)+a1)) a1):Int))
def gd (a0:Int)(a1:Int):Prop:=True
def R:=RR (p2 gd) (u2 md)
theorem aj {a0 a1}(h:gd a0 a1):R (a0,a1)=some (md a0 a1):=aM (a:=(a0,a1)) h
def aV:=CN [pI,pI] oI RT.dec R
theorem bq (a0)(a1)(hg:gd a0 a1):F a0 a1=ret (md a0 a1):=by
 unfold F md
 try simp only [SS]
 refine ct (Z41.aj trivial) ?_
 refine av ret (fun _=>rfl) (fun c1=>?_)
 have dc1:=c1
 try simp only [DC] at dc1
 have Dc1:=c1
 try simp [Z41.md] at Dc1
 refine cN df ?_
 refine cN df ?_
 all_goals exact fz
theorem af:cw 567 aV:=W2 15 F mix aD bq (.cons Z41.af .nil) Tryz.func567
end Z49
namespace Z50
inductive Pt where
 | p0 (a:List (List L)) (b:Int) (c:Int)
def pid:Pt→Nat
 | .p0 ..=>3
def bY:Pt→List V
 | .p0 a b c=>[.sl none 3 a,.int .i64 b,.int .i64 c]
def bZ:Pt→List aU
 | .p0 a b c=>[]
def step (J:Pt→aG):Pt→aG
 | .p0 a b c=>(cond (decide (c<(a.length:Int))) (m2 c (a.length:Int) (call (Z49.R ((jv a (toNat c)),2147483647)) fun v1=>J (.p0 a (Int.tmod (i64.wrap ((i64.wrap ((i64.wrap (b*1000003))+v1))+13)) 2147483647) (i64.wrap (c+1))))) (ret (b:Int)))
def start (J:Pt→aG)(x0:List (List L)):aG:=J (.p0 x0 11 0)
def live:Nat→Live:=fun i=>match i with | 3=>[(0,none),(3,none),(4,none)] | _=>[]
def md (a0:List Int):Int:=(dW (S:=Int) (β:=Int) (fun (y1:Int) (s3:Int)=>(.inl (Int.tmod (i64.wrap ((i64.wrap ((i64.wrap (s3*1000003))+(Z49.md y1 2147483647)))+13)) 2147483647))) (fun (s3:Int)=>(s3:Int)) a0 11)
def gd (a0:List Int):Prop:=(bK (2^43) (fun y:Int=>True) a0)
def R:=RR gd md
theorem aj {a0}(h:gd a0):R (a0.map aZ)=some (md a0):=aM (a:=a0) h
def aV:=CN [pL 3] oI RT.dec R
theorem bq (a0)(hg:gd a0):∃n,start (iter step n) (a0.map aZ)=ret (md a0):=by
 unfold gd at hg
 have H0:=hg
 unfold start md
 try simp only [SS]
 have Bh2:a0.length≤maxLen:=(by
   have:=(H0).1
   try simp only [maxLen] at *
   omega)
 refine ex_eq (out:=ret) (eE (z:=0)) ?_
 refine dN (p:=Pt.p0 (a0.map aZ) 11 0) fz ?_
 refine ck (pt:=fun (i1:Nat) (s3:Int)=>Pt.p0 (a0.map aZ) s3 (i1:Int)) (s:=(11:Int)) (out:=ret) (fun _ _=>True) (fun J i1 s3 h2 hih2=>?_) (fun s3 hih2=>?_) trivial
 ·simp only [step,SS]
  have bb_:=Bh2
  simp only [maxLen] at bb_
  have:=(H0).1
  refine bt.yes (by apply decide_eq_true;omega) ?_
  refine bt.yes aH ?_
  refine bt.yes (aL h2) ?_
  refine cr (Z49.aj trivial) ?_
  refine bt.inl trivial ?_
  rw [aE h2 Bh2]
  all_goals exact fz
 ·simp only [step,SS]
  have:=(H0).1
  refine dx (by apply decide_eq_false;omega) ?_
  refine ⟨0,?_⟩
  all_goals exact fz
theorem af:cw 516 aV:=L1 22 pid bY bZ live step start mix aD bq (.cons Z49.af .nil) Tryz.func516
end Z50
namespace Z51
def F (x0:bu)(x1:Int):aG:=(call (Z48.R x0) fun v1=>(bX (eU (((2:Int)+(v1.length:Int))*8)) (call (Z50.R ([[L.int 239],[L.int x1]]++v1)) fun v2=>ret (v2:Int))))
def md (a0:aJ)(a1:Int):Int:=((Z50.md ([239,a1]++(Z48.md a0))):Int)
def gd (a0:aJ)(a1:Int):Prop:=(aJ.Sm (2^21) a0)
def R:=RR (p2 gd) (u2 md)
theorem aj {a0 a1}(h:gd a0 a1):R ((aJ.r a0),a1)=some (md a0 a1):=aM (a:=(a0,a1)) h
def aV:=CN [.agg qb,pI] oI RT.dec R
theorem bq (a0)(a1)(hg:gd a0 a1):F (aJ.r a0) a1=ret (md a0 a1):=by
 unfold gd at hg
 have H0:=hg
 unfold F md
 try simp only [SS]
 refine ct (Z48.aj H0) ?_
 try simp only [SS]
 refine ak (have:=Z48.len a0;have:=(H0).1;lm) ?_
 refine bh (Z50.md ([239,a1]++(Z48.md a0))) (rq (Z50.aj (a0:=([239,a1]++(Z48.md a0))) ⟨(have:=Z48.len a0;have:=(H0).1;om),fun _ _=>trivial⟩)) ?_
 all_goals exact fz
theorem af:cw 439 aV:=W2 11 F mix aD bq (.cons Z48.af (.cons Z50.af .nil)) Tryz.func439
end Z51
namespace Z52
def F (x0:bU):aG:=(call (Z48.R x0.bJ) fun v1=>(bX (eU (((8:Int)+(v1.length:Int))*8)) (call (Z48.R x0.bw) fun v2=>(bX (eU (((([[L.int x0.bA],[L.int x0.cE],[L.int x0.bD],[L.int x0.cB],[L.int x0.cq],[L.int x0.cg],[L.int x0.cS],[L.int x0.dz]]++v1).length:Int)+(v2.length:Int))*8)) (bX (eU ((((([[L.int x0.bA],[L.int x0.cE],[L.int x0.bD],[L.int x0.cB],[L.int x0.cq],[L.int x0.cg],[L.int x0.cS],[L.int x0.dz]]++v1)++v2).length:Int)+1)*8)) (call (Z48.R x0.bp) fun v3=>(bX (eU (((((([[L.int x0.bA],[L.int x0.cE],[L.int x0.bD],[L.int x0.cB],[L.int x0.cq],[L.int x0.cg],[L.int x0.cS],[L.int x0.dz]]++v1)++v2)++[[L.int x0.cW]]).length:Int)+(v3.length:Int))*8)) (cond x0.bB (bX (eU ((((((([[L.int x0.bA],[L.int x0.cE],[L.int x0.bD],[L.int x0.cB],[L.int x0.cq],[L.int x0.cg],[L.int x0.cS],[L.int x0.dz]]++v1)++v2)++[[L.int x0.cW]])++v3).length:Int)+1)*8)) (ret (((((([[L.int x0.bA],[L.int x0.cE],[L.int x0.bD],[L.int x0.cB],[L.int x0.cq],[L.int x0.cg],[L.int x0.cS],[L.int x0.dz]]++v1)++v2)++[[L.int x0.cW]])++v3)++[[L.int 1]]):List (List L)))) (bX (eU ((((((([[L.int x0.bA],[L.int x0.cE],[L.int x0.bD],[L.int x0.cB],[L.int x0.cq],[L.int x0.cg],[L.int x0.cS],[L.int x0.dz]]++v1)++v2)++[[L.int x0.cW]])++v3).length:Int)+1)*8)) (ret (((((([[L.int x0.bA],[L.int x0.cE],[L.int x0.bD],[L.int x0.cB],[L.int x0.cq],[L.int x0.cg],[L.int x0.cS],[L.int x0.dz]]++v1)++v2)++[[L.int x0.cW]])++v3)++[[L.int 0]]):List (List L))))))))))))
def md (a0:aC):List Int:=(cond a0.bB ((((([a0.bA,a0.cE,a0.bD,a0.cB,a0.cq,a0.cg,a0.cS,a0.dz]++(Z48.md a0.bJ))++(Z48.md a0.bw))++[a0.cW])++(Z48.md a0.bp))++[1]) ((((([a0.bA,a0.cE,a0.bD,a0.cB,a0.cq,a0.cg,a0.cS,a0.dz]++(Z48.md a0.bJ))++(Z48.md a0.bw))++[a0.cW])++(Z48.md a0.bp))++[0]))
def gd (a0:aC):Prop:=(aC.Sm (2^21) a0)
def R:=RR gd md
theorem aj {a0}(h:gd a0):R (aC.r a0)=some ((md a0).map aZ):=aM (a:=a0) h
def aV:=CN [.agg fX] (oL 3) RT.dec R
theorem bq (a0)(hg:gd a0):F (aC.r a0)=ret ((md a0).map aZ):=by
 unfold gd at hg
 have H0:=hg
 unfold F md
 try simp only [SS]
 refine ct (Z48.aj H0.1) ?_
 try simp only [SS]
 refine ak (have:=Z48.len a0.bJ;have:=(H0.1).1;lm) ?_
 refine ct (Z48.aj H0.2.1) ?_
 try simp only [SS]
 refine ak (have:=Z48.len a0.bJ;have:=(H0.1).1;have:=Z48.len a0.bw;have:=(H0.2.1).1;lm) ?_
 refine ak (have:=Z48.len a0.bJ;have:=(H0.1).1;have:=Z48.len a0.bw;have:=(H0.2.1).1;lm) ?_
 refine ct (Z48.aj H0.2.2) ?_
 try simp only [SS]
 refine ak (have:=Z48.len a0.bJ;have:=(H0.1).1;have:=Z48.len a0.bw;have:=(H0.2.1).1;have:=Z48.len a0.bp;have:=(H0.2.2).1;lm) ?_
 refine av (fun b:List Int=>ret ((b.map aZ):List (List L))) (fun c1=>?_) (fun c1=>?_)
 ·refine ak (have:=Z48.len a0.bJ;have:=(H0.1).1;have:=Z48.len a0.bw;have:=(H0.2.1).1;have:=Z48.len a0.bp;have:=(H0.2.2).1;lm) ?_
  all_goals exact fz
 ·refine ak (have:=Z48.len a0.bJ;have:=(H0.1).1;have:=Z48.len a0.bw;have:=(H0.2.1).1;have:=Z48.len a0.bp;have:=(H0.2.2).1;lm) ?_
  all_goals exact fz
theorem af:cw 441 aV:=W1 49 F mix aD bq (.cons Z48.af .nil) Tryz.func441
theorem len (a0:aC):(md a0).length=16+a0.bJ.aT.length+a0.bw.aT.length+a0.bp.aT.length:=by unfold md;cases a0.bB<;>simp [Z48.md]<;>omega
theorem Ai {k l:aJ}{x y:List Int}(h:Z48.md k++x=Z48.md l++y):k=l∧x=y:=by
 obtain ⟨kl,kn⟩:=k
 obtain ⟨ll,ln⟩:=l
 simp only [Z48.md,List.cons_append,List.nil_append,List.cons.injEq] at h
 obtain ⟨h1,h2,h3⟩:=h
 obtain ⟨h4,h5⟩:=List.append_inj h3 (by omega)
 exact ⟨by rw [h1,h4],h5⟩
theorem tE (a:aC):md a=a.bA::a.cE::a.bD::a.cB::a.cq::a.cg::a.cS::a.dz::(Z48.md a.bJ++(Z48.md a.bw++(a.cW::(Z48.md a.bp++[bif a.bB then 1 else 0])))):=by
 unfold md
 cases a.bB<;>simp only [bf,bk,List.append_assoc,List.cons_append,List.nil_append]
theorem inj {a b:aC}(h:md a=md b):a=b:=by
 rw [tE,tE] at h
 simp only [List.cons.injEq] at h
 obtain ⟨g1,g2,g3,g4,g5,g6,g7,g8,g9⟩:=h
 obtain ⟨k1,g9⟩:=Ai g9
 obtain ⟨k2,g9⟩:=Ai g9
 simp only [List.cons.injEq] at g9
 obtain ⟨k3,g9⟩:=g9
 obtain ⟨k4,g9⟩:=Ai g9
 have k5:a.bB=b.bB:=by
  simp only [List.cons.injEq,and_true] at g9
  revert g9
  cases a.bB<;>cases b.bB<;>simp
 cases a;cases b
 simp only [aC.mk.injEq]
 exact ⟨g1,g2,g3,g4,g5,g6,g7,g8,k1,k2,k3,k4,k5⟩
end Z52
namespace Z53
def F (x0:Int)(x1:List (List L)):aG:=(bX (eU (((1:Int)+(x1.length:Int))*8)) (bX (eU (((([[L.int x0]]++x1).length:Int)+1)*8)) (call (Z50.R (([[L.int x0]]++x1)++[[L.int x0]])) fun v1=>ret (v1:Int))))
def md (a0:Int)(a1:List Int):Int:=((Z50.md (([a0]++a1)++[a0])):Int)
def gd (a0:Int)(a1:List Int):Prop:=(bK (2^40) (fun y:Int=>True) a1)
def R:=RR (p2 gd) (u2 md)
theorem aj {a0 a1}(h:gd a0 a1):R (a0,(a1.map aZ))=some (md a0 a1):=aM (a:=(a0,a1)) h
def aV:=CN [pI,pL 3] oI RT.dec R
theorem bq (a0)(a1)(hg:gd a0 a1):F a0 (a1.map aZ)=ret (md a0 a1):=by
 unfold gd at hg
 have H1:=hg
 unfold F md
 try simp only [SS]
 refine ak (have:=(H1).1;lm) ?_
 refine ak (have:=(H1).1;lm) ?_
 refine bh (Z50.md (([a0]++a1)++[a0])) (rq (Z50.aj (a0:=(([a0]++a1)++[a0])) ⟨(have:=(H1).1;om),fun _ _=>trivial⟩)) ?_
 all_goals exact fz
theorem af:cw 588 aV:=W2 13 F mix aD bq (.cons Z50.af .nil) Tryz.func588
end Z53
namespace Z54
def F (x0:Int)(x1:List (List L)):aG:=(bX (eU (((1:Int)+(x1.length:Int))*8)) (call (Z53.R (x0,([[L.int 223]]++x1))) fun v1=>ret (v1:Int)))
def md (a0:Int)(a1:List Int):Int:=((Z53.md a0 ([223]++a1)):Int)
def gd (a0:Int)(a1:List Int):Prop:=(bK (2^39) (fun y:Int=>True) a1)
def R:=RR (p2 gd) (u2 md)
theorem aj {a0 a1}(h:gd a0 a1):R (a0,(a1.map aZ))=some (md a0 a1):=aM (a:=(a0,a1)) h
def aV:=CN [pI,pL 3] oI RT.dec R
theorem bq (a0)(a1)(hg:gd a0 a1):F a0 (a1.map aZ)=ret (md a0 a1):=by
 unfold gd at hg
 have H1:=hg
 unfold F md
 try simp only [SS]
 refine ak (have:=(H1).1;lm) ?_
 refine bh (Z53.md a0 ([223]++a1)) (rq (Z53.aj (a0:=a0) (a1:=([223]++a1)) ⟨(have:=(H1).1;om),fun _ _=>trivial⟩)) ?_
 all_goals exact fz
theorem af:cw 571 aV:=W2 10 F mix aD bq (.cons Z53.af .nil) Tryz.func571
end Z54
namespace Z55
def F (x0:aY)(x1:List (List L)):aG:=(call (Z41.R (x0.gN,1,99)) fun v1=>(cond v1 (call (Z54.R (x0.gN,x1)) fun v2=>ret ((x0.jw==v2):Bool)) (ret (false:Bool))))
def md (a0:aY)(a1:List Int):Bool:=(cond (Z41.md a0.gN 1 99) ((a0.jw==(Z54.md a0.gN a1)):Bool) (false:Bool))
def gd (a0:aY)(a1:List Int):Prop:=(bK (2^38) (fun y:Int=>True) a1)
def R:=RR (p2 gd) (u2 md)
theorem aj {a0 a1}(h:gd a0 a1):R (a0,(a1.map aZ))=some (md a0 a1):=aM (a:=(a0,a1)) h
def aV:=CN [.agg yI,pL 3] oB RT.dec R
theorem bq (a0)(a1)(hg:gd a0 a1):F a0 (a1.map aZ)=ret (md a0 a1):=by
 unfold gd at hg
 have H1:=hg
 unfold F md
 try simp only [SS]
 refine ct (Z41.aj trivial) ?_
 refine av ret (fun c1=>?_) (fun _=>rfl)
 refine ct (Z54.aj (H1.mono (by decide) (fun x hx=>trivial))) ?_
 all_goals exact fz
theorem af:cw 568 aV:=W2 17 F mix aD bq (.cons Z41.af (.cons Z54.af .nil)) Tryz.func568
end Z55
namespace Z56
inductive Pt where
 | p0 (a:List (List L)) (b:List (List L)) (c:Int) (d:Int) (e:bu)
 | p1 (a:List (List L)) (b:List (List L)) (c:Int) (d:Int) (e:Int) (f:bu)
def pid:Pt→Nat
 | .p0 ..=>3
 | .p1 ..=>6
def bY:Pt→List V
 | .p0 a b c d e=>[.sl none 3 a,.sl none 428 b,.dc 0 0,.int .i64 c,.int .i64 d]
 | .p1 a b c d e f=>[.sl none 3 a,.sl none 428 b,.dc 0 0,.int .i64 c,.int .i64 d,.int .i64 e]
def bZ:Pt→List aU
 | .p0 a b c d e=>[.box [.sl none 3 e.aT,.int .i64 e.cu]]
 | .p1 a b c d e f=>[.box [.sl none 3 f.aT,.int .i64 f.cu]]
def step (J:Pt→aG):Pt→aG
 | .p0 a b c d e=>(cond (decide (d<(e.aT.length:Int))) (J (.p1 a b c d 0 e)) (ret (c:Int)))
 | .p1 a b c d e f=>(cond (decide (e<(b.length:Int))) (m2 e (b.length:Int) (m2 d (f.aT.length:Int) (cond ((aY.at b (toNat e)).gN==(jv f.aT (toNat d))) (m2 e (b.length:Int) (call (Z55.R ((aY.at b (toNat e)),a)) fun v1=>(cond v1 (J (.p0 a b (i64.wrap (c+1)) (i64.wrap (d+1)) f)) (J (.p1 a b c d (i64.wrap (e+1)) f))))) (J (.p1 a b c d (i64.wrap (e+1)) f))))) (J (.p0 a b c (i64.wrap (d+1)) f)))
def start (J:Pt→aG)(x0:bu)(x1:List (List L))(x2:List (List L)):aG:=J (.p0 x1 x2 0 0 x0)
def live:Nat→Live:=fun i=>match i with | 3=>[(1,none),(2,none),(3,none),(7,none),(8,none)] | 6=>[(1,none),(2,none),(3,none),(7,none),(8,none),(9,none)] | _=>[]
def md (a0:aJ)(a1:List Int)(a2:List aY):Int:=(dW (S:=Int) (β:=Int) (fun (y1:Int) (s3:Int)=>(dW (S:=Unit) (β:=(Int⊕Int)) (fun (y5:aY) (s7:Unit)=>(cond (y5.gN==y1) (cond (Z55.md y5 a1) (.inr (.inl (i64.wrap (s3+1)))) (.inl ())) (.inl ()))) (fun (s7:Unit)=>(.inl s3)) a2 ())) (fun (s3:Int)=>(s3:Int)) a0.aT 0)
def gd (a0:aJ)(a1:List Int)(a2:List aY):Prop:=(aJ.Sm (2^21) a0)∧(bK (2^38) (fun y:Int=>True) a1)∧(bK (2^21) (fun y:aY=>aY.Sm (2^21) y) a2)
def R:=RR (p3 gd) (u3 md)
theorem aj {a0 a1 a2}(h:gd a0 a1 a2):R ((aJ.r a0),(a1.map aZ),(a2.map aY.row))=some (md a0 a1 a2):=aM (a:=(a0,a1,a2)) h
def aV:=CN [.agg qb,pL 3,pL 428] oI RT.dec R
theorem bq (a0)(a1)(a2)(hg:gd a0 a1 a2):∃n,start (iter step n) (aJ.r a0) (a1.map aZ) (a2.map aY.row)=ret (md a0 a1 a2):=by
 obtain ⟨H0,H1,H2⟩:=hg
 unfold start md
 try simp only [SS]
 have Bh2:a0.aT.length≤maxLen:=(by
   have:=(H0).1
   try simp only [maxLen] at *
   omega)
 refine ex_eq (out:=ret) (eE (z:=0)) ?_
 refine dN (p:=Pt.p0 (a1.map aZ) (a2.map aY.row) 0 0 (aJ.r a0)) fz ?_
 refine tT (pt:=fun (i1:Nat) (s3:Int)=>Pt.p0 (a1.map aZ) (a2.map aY.row) s3 (i1:Int) (aJ.r a0)) (s:=(0:Int)) (out:=ret) (fun _ _=>True) (fun i1 s3 h2 hih2 K4 hK4 rK4=>?_) (fun s3 hih2=>?_) trivial
 ·simp only [step,SS]
  have bb_:=Bh2
  simp only [maxLen] at bb_
  have:=(H0).1
  refine dI (by apply decide_eq_true;omega) ?_
  have Bh6:a2.length≤maxLen:=(by
    have:=(H2).1
    try simp only [maxLen] at *
    omega)
  refine ex_eq (out:=K4) (eE (z:=aY.zero)) ?_
  refine dN (p:=Pt.p1 (a1.map aZ) (a2.map aY.row) s3 (i1:Int) 0 (aJ.r a0)) fz ?_
  refine tT (pt:=fun (i5:Nat) (s7:Unit)=>Pt.p1 (a1.map aZ) (a2.map aY.row) s3 (i1:Int) (i5:Int) (aJ.r a0)) (s:=(():Unit)) (out:=K4) (fun _ _=>True) (fun i5 s7 h6 hih6 K8 hK8 rK8=>?_) (fun s7 hih6=>?_) trivial
  ·simp only [step,SS]
   have bb_:=Bh6
   simp only [maxLen] at bb_
   have:=(H2).1
   refine dI (by apply decide_eq_true;omega) ?_
   refine dI aH ?_
   refine dI (aL h6) ?_
   refine dI dt ?_
   refine dI (have:=(H0).1;dt) ?_
   refine gT K8 (fun c9=>?_) (fun c9=>?_)
   ·refine dI aH ?_
    refine dI (aL h6) ?_
    refine cx (Z55.aj H1) ?_
    refine gT K8 (fun c10=>?_) (fun c10=>?_)
    ·rw [rK8]
     rw [aE h2 Bh2]
     first | exact hK4 _ trivial | (simp only [SS];exact hK4 _ trivial) | (simp only [MP];exact hK4 _ trivial)
    ·rw [aE h6 Bh6]
     first | exact hK8 _ trivial | (simp only [SS];exact hK8 _ trivial) | (simp only [MP];exact hK8 _ trivial)
   ·rw [aE h6 Bh6]
    first | exact hK8 _ trivial | (simp only [SS];exact hK8 _ trivial) | (simp only [MP];exact hK8 _ trivial)
  ·simp only [step,SS]
   have:=(H2).1
   refine dx (by apply decide_eq_false;omega) ?_
   rw [aE h2 Bh2]
   first | exact hK4 _ trivial | (simp only [SS];exact hK4 _ trivial) | (simp only [MP];exact hK4 _ trivial)
 ·simp only [step,SS]
  have:=(H0).1
  refine dx (by apply decide_eq_false;omega) ?_
  refine ⟨0,?_⟩
  all_goals exact fz
theorem af:cw 518 aV:=L3 45 pid bY bZ live step start mix aD bq (.cons Z55.af .nil) Tryz.func518
end Z56
namespace Z57
def F (x0:bu)(x1:List (List L))(x2:List (List L)):aG:=(call (Z45.R x0) fun v1=>(cond v1 (call (Z56.R (x0,x1,x2)) fun v2=>ret ((decide (v2≥x0.cu)):Bool)) (ret (false:Bool))))
def md (a0:aJ)(a1:List Int)(a2:List aY):Bool:=(cond (Z45.md a0) ((decide ((Z56.md a0 a1 a2)≥a0.cu)):Bool) (false:Bool))
def gd (a0:aJ)(a1:List Int)(a2:List aY):Prop:=(aJ.Sm (2^21) a0)∧(bK (2^38) (fun y:Int=>True) a1)∧(bK (2^21) (fun y:aY=>aY.Sm (2^21) y) a2)
def R:=RR (p3 gd) (u3 md)
theorem aj {a0 a1 a2}(h:gd a0 a1 a2):R ((aJ.r a0),(a1.map aZ),(a2.map aY.row))=some (md a0 a1 a2):=aM (a:=(a0,a1,a2)) h
def aV:=CN [.agg qb,pL 3,pL 428] oB RT.dec R
theorem bq (a0)(a1)(a2)(hg:gd a0 a1 a2):F (aJ.r a0) (a1.map aZ) (a2.map aY.row)=ret (md a0 a1 a2):=by
 obtain ⟨H0,H1,H2⟩:=hg
 unfold F md
 try simp only [SS]
 refine ct (Z45.aj H0) ?_
 refine av ret (fun c1=>?_) (fun _=>rfl)
 refine ct (Z56.aj ⟨H0,H1,H2⟩) ?_
 all_goals exact fz
theorem af:cw 440 aV:=W3 18 F mix aD bq (.cons Z45.af (.cons Z56.af .nil)) Tryz.func440
end Z57
namespace Z58
def F (x0:aO):aG:=(call (Z47.R x0.aq) fun v1=>(cond v1 (cond (x0.aq.cE==0) (cond (x0.aq.bD==1) (cond (!x0.aq.bB) (call (Z51.R (x0.aq.bJ,x0.aq.dz)) fun v2=>(cond (x0.aq.bA==v2) (call (Z52.R x0.aq) fun v3=>(call (Z57.R (x0.aq.bJ,v3,x0.bW)) fun v4=>ret (v4:Bool))) (ret (false:Bool)))) (ret (false:Bool))) (ret (false:Bool))) (ret (false:Bool))) (ret (false:Bool))))
def md (a0:aa):Bool:=(cond (Z47.md a0.aq) (cond (a0.aq.cE==0) (cond (a0.aq.bD==1) (cond (!a0.aq.bB) (cond (a0.aq.bA==(Z51.md a0.aq.bJ a0.aq.dz)) ((Z57.md a0.aq.bJ (Z52.md a0.aq) a0.bW):Bool) (false:Bool)) (false:Bool)) (false:Bool)) (false:Bool)) (false:Bool))
def gd (a0:aa):Prop:=(aa.Sm (2^21) a0)
def R:=RR gd md
theorem aj {a0}(h:gd a0):R (aa.r a0)=some (md a0):=aM (a:=a0) h
def aV:=CN [.agg kH] oB RT.dec R
theorem bq (a0)(hg:gd a0):F (aa.r a0)=ret (md a0):=by
 unfold gd at hg
 have H0:=hg
 unfold F md
 try simp only [SS]
 refine ct (Z47.aj H0.1) ?_
 refine av ret (fun c1=>?_) (fun _=>rfl)
 try have tc1:=Z47.tr (by simpa using c1)
 refine av ret (fun c2=>?_) (fun _=>rfl)
 have dc2:=c2
 try simp only [DC] at dc2
 refine av ret (fun c3=>?_) (fun _=>rfl)
 have dc3:=c3
 try simp only [DC] at dc3
 refine av ret (fun c4=>?_) (fun _=>rfl)
 have dc4:=c4
 try simp only [DC] at dc4
 refine ct (Z51.aj H0.1.1) ?_
 refine av ret (fun c5=>?_) (fun _=>rfl)
 have dc5:=c5
 try simp only [DC] at dc5
 refine ct (Z52.aj H0.1) ?_
 try simp only [SS]
 refine ct (Z57.aj ⟨H0.1.1,⟨(have:=Z52.len a0.aq;have:=(H0.1.1).1;have:=(H0.1.2.1).1;have:=(H0.1.2.2).1;om),fun _ _=>trivial⟩,H0.2⟩) ?_
 all_goals exact fz
theorem af:cw 353 aV:=W1 42 F mix aD bq (.cons Z47.af (.cons Z51.af (.cons Z52.af (.cons Z57.af .nil)))) Tryz.func353
end Z58
namespace Z59
def F (x0:bU):aG:=(call (Z52.R x0) fun v1=>(bX (eU (((1:Int)+(v1.length:Int))*8)) (call (Z50.R ([[L.int 233]]++v1)) fun v2=>ret (v2:Int))))
def md (a0:aC):Int:=((Z50.md ([233]++(Z52.md a0))):Int)
def gd (a0:aC):Prop:=(aC.Sm (2^21) a0)
def R:=RR gd md
theorem aj {a0}(h:gd a0):R (aC.r a0)=some (md a0):=aM (a:=a0) h
def aV:=CN [.agg fX] oI RT.dec R
theorem bq (a0)(hg:gd a0):F (aC.r a0)=ret (md a0):=by
 unfold gd at hg
 have H0:=hg
 unfold F md
 try simp only [SS]
 refine ct (Z52.aj H0) ?_
 try simp only [SS]
 refine ak (have:=Z52.len a0;have:=(H0.1).1;have:=(H0.2.1).1;have:=(H0.2.2).1;lm) ?_
 refine bh (Z50.md ([233]++(Z52.md a0))) (rq (Z50.aj (a0:=([233]++(Z52.md a0))) ⟨(have:=Z52.len a0;have:=(H0.1).1;have:=(H0.2.1).1;have:=(H0.2.2).1;om),fun _ _=>trivial⟩)) ?_
 all_goals exact fz
theorem af:cw 519 aV:=W1 8 F mix aD bq (.cons Z52.af (.cons Z50.af .nil)) Tryz.func519
end Z59
namespace Z60
def F (x0:bU)(x1:bU):aG:=(cond x0.bB (ret (4:Int)) (cond x1.bB (ret (6:Int)) (ret (1:Int))))
def md (a0:aC)(a1:aC):Int:=(cond a0.bB (4:Int) (cond a1.bB (6:Int) (1:Int)))
def gd (a0:aC)(a1:aC):Prop:=True
def R:=RR (p2 gd) (u2 md)
theorem aj {a0 a1}(h:gd a0 a1):R ((aC.r a0),(aC.r a1))=some (md a0 a1):=aM (a:=(a0,a1)) h
def aV:=CN [.agg fX,.agg fX] oI RT.dec R
theorem bq (a0)(a1)(hg:gd a0 a1):F (aC.r a0) (aC.r a1)=ret (md a0 a1):=by
 unfold F md
 try simp only [SS]
 refine av ret (fun _=>rfl) (fun c1=>?_)
 refine av ret (fun _=>rfl) (fun _=>rfl)
theorem af:cw 520 aV:=W2 11 F mix aD bq .nil Tryz.func520
end Z60
namespace Z61
inductive Pt where
 | p0 (a:List (List L)) (b:List (List L)) (c:Int)
def pid:Pt→Nat
 | .p0 ..=>4
def bY:Pt→List V
 | .p0 a b c=>[.sl none 3 a,.sl none 3 b,.int .i64 c]
def bZ:Pt→List aU
 | .p0 a b c=>[]
def step (J:Pt→aG):Pt→aG
 | .p0 a b c=>(cond (decide (c<(a.length:Int))) (m2 c (a.length:Int) (m2 c (b.length:Int) (cond ((jv a (toNat c)) != (jv b (toNat c))) (ret (false:Bool)) (J (.p0 a b (i64.wrap (c+1))))))) (ret (true:Bool)))
def start (J:Pt→aG)(x0:List (List L))(x1:List (List L)):aG:=(cond ((x0.length:Int) != (x1.length:Int)) (ret (false:Bool)) (J (.p0 x0 x1 0)))
def live:Nat→Live:=fun i=>match i with | 4=>[(0,none),(1,none),(5,none)] | _=>[]
def md (a0:List Int)(a1:List Int):Bool:=(bif ((a0.length:Int) != (a1.length:Int)) then (false:Bool) else (eg (S:=Unit) (β:=Bool) (fun (i2:Nat) (s4:Unit)=>(cond ((a0.getD i2 0) != (a1.getD i2 0)) (.inr (false:Bool)) (.inl ()))) (fun (s4:Unit)=>(true:Bool)) a0.length 0 ()))
def gd (a0:List Int)(a1:List Int):Prop:=(bK (2^38) (fun y:Int=>True) a0)∧(bK (2^38) (fun y:Int=>True) a1)
def R:=RR (p2 gd) (u2 md)
theorem aj {a0 a1}(h:gd a0 a1):R ((a0.map aZ),(a1.map aZ))=some (md a0 a1):=aM (a:=(a0,a1)) h
def aV:=CN [pL 3,pL 3] oB RT.dec R
theorem bq (a0)(a1)(hg:gd a0 a1):∃n,start (iter step n) (a0.map aZ) (a1.map aZ)=ret (md a0 a1):=by
 obtain ⟨H0,H1⟩:=hg
 unfold start md
 try simp only [SS]
 refine gT ret (fun _=>⟨0,rfl⟩) (fun c1=>?_)
 have dc1:=c1
 try simp only [DC] at dc1
 have Bh3:a0.length≤maxLen:=(by
   have:=(H0).1
   try simp only [maxLen] at *
   omega)
 refine dN (p:=Pt.p0 (a0.map aZ) (a1.map aZ) 0) fz ?_
 refine ck (pt:=fun (i2:Nat) (s4:Unit)=>Pt.p0 (a0.map aZ) (a1.map aZ) (i2:Int)) (s:=(():Unit)) (out:=ret) (fun _ _=>True) (fun J i2 s4 h3 hih3=>?_) (fun s4 hih3=>?_) trivial
 ·simp only [step,SS]
  have bb_:=Bh3
  simp only [maxLen] at bb_
  have:=(H0).1
  refine bt.yes (by apply decide_eq_true;omega) ?_
  refine bt.yes aH ?_
  refine bt.yes (aL h3) ?_
  refine bt.yes aH ?_
  refine bt.yes (have:=(H1).1;dt) ?_
  refine bt.bif (fun _=>bt.inr rfl) (fun c5=>?_)
  refine bt.inl trivial ?_
  rw [aE h3 Bh3]
  all_goals exact fz
 ·simp only [step,SS]
  have:=(H0).1
  refine dx (by apply decide_eq_false;omega) ?_
  refine ⟨0,?_⟩
  all_goals exact fz
theorem af:cw 452 aV:=L2 26 pid bY bZ live step start mix aD bq .nil Tryz.func452
theorem md_eq (a0:List Int)(a1:List Int):md a0 a1=dZ a0 a1:=by
 unfold md
 refine jX (0) (fun i s h h2=>?_) (fun s=>rfl)
 simp only [bne,fq,bool_beq,eS]
 cases dZ _ _<;>rfl
end Z61
namespace Z62
def F (x0:bu)(x1:bu):aG:=(cond (x0.cu==x1.cu) (call (Z61.R (x0.aT,x1.aT)) fun v1=>ret (v1:Bool)) (ret (false:Bool)))
def md (a0:aJ)(a1:aJ):Bool:=(cond (a0.cu==a1.cu) ((Z61.md a0.aT a1.aT):Bool) (false:Bool))
def gd (a0:aJ)(a1:aJ):Prop:=(aJ.Sm (2^21) a0)∧(aJ.Sm (2^21) a1)
def R:=RR (p2 gd) (u2 md)
theorem aj {a0 a1}(h:gd a0 a1):R ((aJ.r a0),(aJ.r a1))=some (md a0 a1):=aM (a:=(a0,a1)) h
def aV:=CN [.agg qb,.agg qb] oB RT.dec R
theorem bq (a0)(a1)(hg:gd a0 a1):F (aJ.r a0) (aJ.r a1)=ret (md a0 a1):=by
 obtain ⟨H0,H1⟩:=hg
 unfold F md
 try simp only [SS]
 refine av ret (fun c1=>?_) (fun _=>rfl)
 refine ct (Z61.aj ⟨(H0.mono (by decide) (fun x hx=>trivial)),(H1.mono (by decide) (fun x hx=>trivial))⟩) ?_
 all_goals exact fz
theorem af:cw 569 aV:=W2 17 F mix aD bq (.cons Z61.af .nil) Tryz.func569
theorem md_eq (a0:aJ)(a1:aJ):md a0 a1=dZ a0 a1:=by
 unfold md
 cases a0;cases a1
 rw [Bool.eq_iff_iff]
 simp [dm,eS,aJ.mk.injEq,Z61.md_eq]
 try (constructor<;>(intro h;simp_all))
end Z62
namespace Z63
def F (x0:bU)(x1:bU):aG:=(cond (x0.cg==x1.cg) (ret ((x0.cS==x1.cS):Bool)) (ret (false:Bool)))
def md (a0:aC)(a1:aC):Bool:=(cond (a0.cg==a1.cg) ((a0.cS==a1.cS):Bool) (false:Bool))
def gd (a0:aC)(a1:aC):Prop:=True
def R:=RR (p2 gd) (u2 md)
theorem aj {a0 a1}(h:gd a0 a1):R ((aC.r a0),(aC.r a1))=some (md a0 a1):=aM (a:=(a0,a1)) h
def aV:=CN [.agg fX,.agg fX] oB RT.dec R
theorem bq (a0)(a1)(hg:gd a0 a1):F (aC.r a0) (aC.r a1)=ret (md a0 a1):=by
 unfold F md
 try simp only [SS]
 refine av ret (fun c1=>?_) (fun _=>rfl)
 all_goals exact fz
theorem af:cw 570 aV:=W2 17 F mix aD bq .nil Tryz.func570
end Z63
namespace Z64
def F (x0:bU)(x1:bU):aG:=(cond x0.bB (ret (4:Int)) (call (Z46.R x0.bw) fun v1=>(cond v1 (ret (5:Int)) (cond (decide (x1.cB<(i64.wrap (x0.cq+x0.cW)))) (ret (5:Int)) (cond x1.bB (ret (6:Int)) (call (Z62.R (x1.bJ,x0.bw)) fun v2=>(cond (!v2) (ret (6:Int)) (call (Z63.R (x1,x0)) fun v3=>(cond (!v3) (ret (6:Int)) (ret (1:Int)))))))))))
def md (a0:aC)(a1:aC):Int:=(cond a0.bB (4:Int) (cond (Z46.md a0.bw) (5:Int) (cond (decide (a1.cB<(i64.wrap (a0.cq+a0.cW)))) (5:Int) (cond a1.bB (6:Int) (cond (!(Z62.md a1.bJ a0.bw)) (6:Int) (cond (!(Z63.md a1 a0)) (6:Int) (1:Int)))))))
def gd (a0:aC)(a1:aC):Prop:=(aC.Sm (2^21) a0)∧(aC.Sm (2^21) a1)
def R:=RR (p2 gd) (u2 md)
theorem aj {a0 a1}(h:gd a0 a1):R ((aC.r a0),(aC.r a1))=some (md a0 a1):=aM (a:=(a0,a1)) h
def aV:=CN [.agg fX,.agg fX] oI RT.dec R
theorem bq (a0)(a1)(hg:gd a0 a1):F (aC.r a0) (aC.r a1)=ret (md a0 a1):=by
 obtain ⟨H0,H1⟩:=hg
 unfold F md
 try simp only [SS]
 refine av ret (fun _=>rfl) (fun c1=>?_)
 refine ct (Z46.aj trivial) ?_
 refine av ret (fun _=>rfl) (fun c2=>?_)
 refine av ret (fun _=>rfl) (fun c3=>?_)
 refine av ret (fun _=>rfl) (fun c4=>?_)
 refine ct (Z62.aj ⟨H1.1,H0.2.1⟩) ?_
 refine av ret (fun _=>rfl) (fun c5=>?_)
 refine ct (Z63.aj trivial) ?_
 refine av ret (fun _=>rfl) (fun _=>rfl)
theorem af:cw 521 aV:=W2 39 F mix aD bq (.cons Z46.af (.cons Z62.af (.cons Z63.af .nil))) Tryz.func521
end Z64
namespace Z65
def F (x0:bU)(x1:bU):aG:=(call (Z46.R x0.bp) fun v1=>(cond v1 (ret (5:Int)) (cond (x1.bB==x0.bB) (ret (6:Int)) (call (Z63.R (x1,x0)) fun v2=>(cond (!v2) (ret (6:Int)) (call (Z62.R (x1.bp,x0.bp)) fun v3=>(cond (!v3) (ret (6:Int)) (call (Z62.R (x1.bw,x0.bw)) fun v4=>(cond (!v4) (ret (6:Int)) (cond (x1.cW != x0.cW) (ret (6:Int)) (cond x1.bB (call (Z62.R (x1.bJ,x0.bJ)) fun v5=>(cond (!v5) (ret (6:Int)) (ret (1:Int)))) (ret (1:Int)))))))))))))
def md (a0:aC)(a1:aC):Int:=(cond (Z46.md a0.bp) (5:Int) (cond (a1.bB==a0.bB) (6:Int) (cond (!(Z63.md a1 a0)) (6:Int) (cond (!(Z62.md a1.bp a0.bp)) (6:Int) (cond (!(Z62.md a1.bw a0.bw)) (6:Int) (cond (a1.cW != a0.cW) (6:Int) (cond a1.bB (cond (!(Z62.md a1.bJ a0.bJ)) (6:Int) (1:Int)) (1:Int))))))))
def gd (a0:aC)(a1:aC):Prop:=(aC.Sm (2^21) a0)∧(aC.Sm (2^21) a1)
def R:=RR (p2 gd) (u2 md)
theorem aj {a0 a1}(h:gd a0 a1):R ((aC.r a0),(aC.r a1))=some (md a0 a1):=aM (a:=(a0,a1)) h
def aV:=CN [.agg fX,.agg fX] oI RT.dec R
theorem bq (a0)(a1)(hg:gd a0 a1):F (aC.r a0) (aC.r a1)=ret (md a0 a1):=by
 obtain ⟨H0,H1⟩:=hg
 unfold F md
 try simp only [SS]
 refine ct (Z46.aj trivial) ?_
 refine av ret (fun _=>rfl) (fun c1=>?_)
 refine av ret (fun _=>rfl) (fun c2=>?_)
 refine ct (Z63.aj trivial) ?_
 refine av ret (fun _=>rfl) (fun c3=>?_)
 refine ct (Z62.aj ⟨H1.2.2,H0.2.2⟩) ?_
 refine av ret (fun _=>rfl) (fun c4=>?_)
 refine ct (Z62.aj ⟨H1.2.1,H0.2.1⟩) ?_
 refine av ret (fun _=>rfl) (fun c5=>?_)
 refine av ret (fun _=>rfl) (fun c6=>?_)
 refine av ret (fun c7=>?_) (fun _=>rfl)
 refine ct (Z62.aj ⟨H1.1,H0.1⟩) ?_
 refine av ret (fun _=>rfl) (fun _=>rfl)
theorem af:cw 522 aV:=W2 55 F mix aD bq (.cons Z46.af (.cons Z63.af (.cons Z62.af .nil))) Tryz.func522
end Z65
namespace Z66
def F (x0:bU)(x1:aO):aG:=(call (Z47.R x0) fun v1=>(cond (!v1) (ret (2:Int)) (call (Z47.R x1.aq) fun v2=>(cond (!v2) (ret (2:Int)) (cond (x1.aq.bA != x0.bA) (ret (3:Int)) (cond (x1.aq.cE != (i64.wrap (x0.cE+1))) (ret (3:Int)) (call (Z59.R x0) fun v3=>(cond (x1.aq.dz != v3) (ret (3:Int)) (cond (decide (x1.aq.cB<x0.cB)) (ret (3:Int)) (call (Z60.R (x0,x1.aq)) fun v4=>(cond (x1.aq.bD==2) (call (Z64.R (x0,x1.aq)) fun v5=>(cond (v5==1) (call (Z52.R x1.aq) fun v6=>(call (Z57.R (x0.bw,v6,x1.bW)) fun v7=>(cond (!v7) (ret (7:Int)) (ret (v5:Int))))) (ret (v5:Int)))) (cond (x1.aq.bD==3) (call (Z65.R (x0,x1.aq)) fun v8=>(cond (v8==1) (call (Z52.R x1.aq) fun v9=>(call (Z57.R (x0.bp,v9,x1.bW)) fun v10=>(cond (!v10) (ret (7:Int)) (ret (v8:Int))))) (ret (v8:Int)))) (cond (v4==1) (call (Z52.R x1.aq) fun v11=>(call (Z57.R (x0.bJ,v11,x1.bW)) fun v12=>(cond (!v12) (ret (7:Int)) (ret (v4:Int))))) (ret (v4:Int)))))))))))))))
def md (a0:aC)(a1:aa):Int:=(cond (!(Z47.md a0)) (2:Int) (cond (!(Z47.md a1.aq)) (2:Int) (cond (a1.aq.bA != a0.bA) (3:Int) (cond (a1.aq.cE != (i64.wrap (a0.cE+1))) (3:Int) (cond (a1.aq.dz != (Z59.md a0)) (3:Int) (cond (decide (a1.aq.cB<a0.cB)) (3:Int) (cond (a1.aq.bD==2) (cond ((Z64.md a0 a1.aq)==1) (cond (!(Z57.md a0.bw (Z52.md a1.aq) a1.bW)) (7:Int) ((Z64.md a0 a1.aq):Int)) ((Z64.md a0 a1.aq):Int)) (cond (a1.aq.bD==3) (cond ((Z65.md a0 a1.aq)==1) (cond (!(Z57.md a0.bp (Z52.md a1.aq) a1.bW)) (7:Int) ((Z65.md a0 a1.aq):Int)) ((Z65.md a0 a1.aq):Int)) (cond ((Z60.md a0 a1.aq)==1) (cond (!(Z57.md a0.bJ (Z52.md a1.aq) a1.bW)) (7:Int) ((Z60.md a0 a1.aq):Int)) ((Z60.md a0 a1.aq):Int))))))))))
def gd (a0:aC)(a1:aa):Prop:=(aC.Sm (2^21) a0)∧(aa.Sm (2^21) a1)
def R:=RR (p2 gd) (u2 md)
theorem aj {a0 a1}(h:gd a0 a1):R ((aC.r a0),(aa.r a1))=some (md a0 a1):=aM (a:=(a0,a1)) h
def aV:=CN [.agg fX,.agg kH] oI RT.dec R
theorem bq (a0)(a1)(hg:gd a0 a1):F (aC.r a0) (aa.r a1)=ret (md a0 a1):=by
 obtain ⟨H0,H1⟩:=hg
 unfold F md
 try simp only [SS]
 refine ct (Z47.aj H0) ?_
 refine av ret (fun _=>rfl) (fun c1=>?_)
 have dc1:=c1
 try simp only [DC] at dc1
 try have tc1:=Z47.tr (by simpa using c1)
 refine ct (Z47.aj H1.1) ?_
 refine av ret (fun _=>rfl) (fun c2=>?_)
 have dc2:=c2
 try simp only [DC] at dc2
 try have tc2:=Z47.tr (by simpa using c2)
 refine av ret (fun _=>rfl) (fun c3=>?_)
 have dc3:=c3
 try simp only [DC] at dc3
 refine av ret (fun _=>rfl) (fun c4=>?_)
 have dc4:=c4
 try simp only [DC] at dc4
 refine ct (Z59.aj H0) ?_
 refine av ret (fun _=>rfl) (fun c5=>?_)
 have dc5:=c5
 try simp only [DC] at dc5
 refine av ret (fun _=>rfl) (fun c6=>?_)
 have dc6:=c6
 try simp only [DC] at dc6
 refine ct (Z60.aj trivial) ?_
 refine av ret (fun c7=>?_) (fun c7=>?_)
 ·have dc7:=c7
  try simp only [DC] at dc7
  refine ct (Z64.aj ⟨H0,H1.1⟩) ?_
  refine av ret (fun c8=>?_) (fun c8=>?_)
  ·have dc8:=c8
   try simp only [DC] at dc8
   refine ct (Z52.aj H1.1) ?_
   try simp only [SS]
   refine ct (Z57.aj ⟨H0.2.1,⟨(have:=Z52.len a1.aq;have:=(H1.1.1).1;have:=(H1.1.2.1).1;have:=(H1.1.2.2).1;om),fun _ _=>trivial⟩,H1.2⟩) ?_
   refine av ret (fun _=>rfl) (fun c9=>?_)
   all_goals exact fz
  ·all_goals exact fz
 ·have dc7:=c7
  try simp only [DC] at dc7
  refine av ret (fun c10=>?_) (fun c10=>?_)
  ·have dc10:=c10
   try simp only [DC] at dc10
   refine ct (Z65.aj ⟨H0,H1.1⟩) ?_
   refine av ret (fun c11=>?_) (fun c11=>?_)
   ·have dc11:=c11
    try simp only [DC] at dc11
    refine ct (Z52.aj H1.1) ?_
    try simp only [SS]
    refine ct (Z57.aj ⟨H0.2.2,⟨(have:=Z52.len a1.aq;have:=(H1.1.1).1;have:=(H1.1.2.1).1;have:=(H1.1.2.2).1;om),fun _ _=>trivial⟩,H1.2⟩) ?_
    refine av ret (fun _=>rfl) (fun c12=>?_)
    all_goals exact fz
   ·all_goals exact fz
  ·have dc10:=c10
   try simp only [DC] at dc10
   refine av ret (fun c13=>?_) (fun c13=>?_)
   ·have dc13:=c13
    try simp only [DC] at dc13
    refine ct (Z52.aj H1.1) ?_
    try simp only [SS]
    refine ct (Z57.aj ⟨H0.1,⟨(have:=Z52.len a1.aq;have:=(H1.1.1).1;have:=(H1.1.2.1).1;have:=(H1.1.2.2).1;om),fun _ _=>trivial⟩,H1.2⟩) ?_
    refine av ret (fun _=>rfl) (fun c14=>?_)
    all_goals exact fz
   ·all_goals exact fz
theorem af:cw 442 aV:=W2 78 F mix aD bq (.cons Z47.af (.cons Z59.af (.cons Z60.af (.cons Z64.af (.cons Z52.af (.cons Z57.af (.cons Z65.af .nil))))))) Tryz.func442
end Z66
namespace Z67
def F (x0:bU)(x1:aO):aG:=(call (Z66.R (x0,x1)) fun v1=>ret ((v1==1):Bool))
def md (a0:aC)(a1:aa):Bool:=(((Z66.md a0 a1)==1):Bool)
def gd (a0:aC)(a1:aa):Prop:=(aC.Sm (2^21) a0)∧(aa.Sm (2^21) a1)
def R:=RR (p2 gd) (u2 md)
theorem aj {a0 a1}(h:gd a0 a1):R ((aC.r a0),(aa.r a1))=some (md a0 a1):=aM (a:=(a0,a1)) h
def aV:=CN [.agg fX,.agg kH] oB RT.dec R
theorem bq (a0)(a1)(hg:gd a0 a1):F (aC.r a0) (aa.r a1)=ret (md a0 a1):=by
 obtain ⟨H0,H1⟩:=hg
 unfold F md
 try simp only [SS]
 refine ct (Z66.aj ⟨H0,H1⟩) ?_
 all_goals exact fz
theorem af:cw 354 aV:=W2 9 F mix aD bq (.cons Z66.af .nil) Tryz.func354
end Z67
namespace Z68
inductive Pt where
 | p0 (a:List (List L)) (b:Int)
def pid:Pt→Nat
 | .p0 ..=>2
def bY:Pt→List V
 | .p0 a b=>[.sl none 123 a,.int .i64 b]
def bZ:Pt→List aU
 | .p0 a b=>[]
def step (J:Pt→aG):Pt→aG
 | .p0 a b=>(cond (decide (b<(a.length:Int))) (cond (b==0) (bX (decide ((0:Int)<(a.length:Int))) (call (Z58.R (aO.at a 0)) fun v1=>(cond (!v1) (ret (b:Int)) (cond (decide (b>0)) (bX (decide ((0:Int)≤(i64.wrap (b - 1)))) (bX (decide ((i64.wrap (b - 1))<(a.length:Int))) (m2 b (a.length:Int) (call (Z67.R ((aO.at a (toNat (i64.wrap (b - 1)))).aq,(aO.at a (toNat b)))) fun v2=>(cond (!v2) (ret (b:Int)) (J (.p0 a (i64.wrap (b+1))))))))) (J (.p0 a (i64.wrap (b+1)))))))) (cond (decide (b>0)) (bX (decide ((0:Int)≤(i64.wrap (b - 1)))) (bX (decide ((i64.wrap (b - 1))<(a.length:Int))) (m2 b (a.length:Int) (call (Z67.R ((aO.at a (toNat (i64.wrap (b - 1)))).aq,(aO.at a (toNat b)))) fun v3=>(cond (!v3) (ret (b:Int)) (J (.p0 a (i64.wrap (b+1))))))))) (J (.p0 a (i64.wrap (b+1)))))) (ret ((-1):Int)))
def start (J:Pt→aG)(x0:List (List L)):aG:=J (.p0 x0 0)
def live:Nat→Live:=fun i=>match i with | 2=>[(0,none),(3,none)] | _=>[]
def md (a0:List aa):Int:=(dS (S:=Unit) (β:=Int) (fun (i1:Nat) (y1:aa) (s3:Unit)=>(cond ((i1:Int)==0) (cond (!(Z58.md (a0.getD 0 aa.zero))) (.inr ((i1:Int):Int)) (cond (decide ((i1:Int)>0)) (cond (!(Z67.md ((a0.getD (toNat (i64.wrap ((i1:Int) - 1))) aa.zero).aq) y1)) (.inr ((i1:Int):Int)) (.inl ())) (.inl ()))) (cond (decide ((i1:Int)>0)) (cond (!(Z67.md ((a0.getD (toNat (i64.wrap ((i1:Int) - 1))) aa.zero).aq) y1)) (.inr ((i1:Int):Int)) (.inl ())) (.inl ())))) (fun (s3:Unit)=>((-1):Int)) 0 a0 ())
def gd (a0:List aa):Prop:=(bK (2^21) (fun y:aa=>aa.Sm (2^21) y) a0)
def R:=RR gd md
theorem aj {a0}(h:gd a0):R (a0.map aa.row)=some (md a0):=aM (a:=a0) h
def aV:=CN [pL 123] oI RT.dec R
theorem bq (a0)(hg:gd a0):∃n,start (iter step n) (a0.map aa.row)=ret (md a0):=by
 unfold gd at hg
 have H0:=hg
 unfold start md
 try simp only [SS]
 have Bh2:a0.length≤maxLen:=(by
   have:=(H0).1
   try simp only [maxLen] at *
   omega)
 refine ex_eq (out:=ret) (cX (z:=aa.zero)) ?_
 refine dN (p:=Pt.p0 (a0.map aa.row) 0) fz ?_
 refine ck (pt:=fun (i1:Nat) (s3:Unit)=>Pt.p0 (a0.map aa.row) (i1:Int)) (s:=(():Unit)) (out:=ret) (fun _ _=>True) (fun J i1 s3 h2 hih2=>?_) (fun s3 hih2=>?_) trivial
 ·simp only [step,SS]
  have bb_:=Bh2
  simp only [maxLen] at bb_
  have:=(H0).1
  refine bt.yes (by apply decide_eq_true;omega) ?_
  refine bt.bif (fun c4=>?_) (fun c4=>?_)
  ·have dc4:=c4
   try simp only [DC] at dc4
   refine bt.yes (have:=(H0).1;dt) ?_
   refine cr (Z58.aj (bK.getD (z:=aa.zero) H0 (by first | assumption | omega | (simp (disch:=omega) only [wi];omega) | (simp;omega)))) ?_
   refine bt.bif (fun c5=>?_) (fun c5=>?_)
   ·refine bt.inr ?_
    all_goals exact fz
   ·have dc5:=c5
    try simp only [DC] at dc5
    refine bt.bif (fun c6=>?_) (fun c6=>?_)
    ·have dc6:=c6
     try simp only [DC] at dc6
     refine bt.yes dt ?_
     refine bt.yes (have:=(H0).1;dt) ?_
     refine bt.yes aH ?_
     refine bt.yes (aL h2) ?_
     refine cr (Z67.aj ⟨(bK.getD (z:=aa.zero) H0 (by first | assumption | omega | (simp (disch:=omega) only [wi];omega) | (simp;omega))).1,(bK.getD (z:=aa.zero) H0 h2)⟩) ?_
     refine bt.bif (fun c7=>?_) (fun c7=>?_)
     ·refine bt.inr ?_
      all_goals exact fz
     ·refine bt.inl trivial ?_
      rw [aE h2 Bh2]
      all_goals exact fz
    ·refine bt.inl trivial ?_
     rw [aE h2 Bh2]
     all_goals exact fz
  ·have dc4:=c4
   try simp only [DC] at dc4
   refine bt.bif (fun c8=>?_) (fun c8=>?_)
   ·have dc8:=c8
    try simp only [DC] at dc8
    refine bt.yes dt ?_
    refine bt.yes (have:=(H0).1;dt) ?_
    refine bt.yes aH ?_
    refine bt.yes (aL h2) ?_
    refine cr (Z67.aj ⟨(bK.getD (z:=aa.zero) H0 (by first | assumption | omega | (simp (disch:=omega) only [wi];omega) | (simp;omega))).1,(bK.getD (z:=aa.zero) H0 h2)⟩) ?_
    refine bt.bif (fun c9=>?_) (fun c9=>?_)
    ·refine bt.inr ?_
     all_goals exact fz
    ·refine bt.inl trivial ?_
     rw [aE h2 Bh2]
     all_goals exact fz
   ·refine bt.inl trivial ?_
    rw [aE h2 Bh2]
    all_goals exact fz
 ·simp only [step,SS]
  have:=(H0).1
  refine dx (by apply decide_eq_false;omega) ?_
  refine ⟨0,?_⟩
  all_goals exact fz
theorem af:cw 225 aV:=L1 38 pid bY bZ live step start mix aD bq (.cons Z58.af (.cons Z67.af .nil)) Tryz.func225
end Z68
namespace Z69
def F (x0:List (List L)):aG:=(call (Z41.R ((x0.length:Int),1,12)) fun v1=>(cond v1 (call (Z68.R x0) fun v2=>ret ((decide (v2<0)):Bool)) (ret (false:Bool))))
def md (a0:List aa):Bool:=(cond (Z41.md (a0.length:Int) 1 12) ((decide ((Z68.md a0)<0)):Bool) (false:Bool))
def gd (a0:List aa):Prop:=(bK (2^21) (fun y:aa=>aa.Sm (2^21) y) a0)
def R:=RR gd md
theorem aj {a0}(h:gd a0):R (a0.map aa.row)=some (md a0):=aM (a:=a0) h
def aV:=CN [pL 123] oB RT.dec R
theorem bq (a0)(hg:gd a0):F (a0.map aa.row)=ret (md a0):=by
 unfold gd at hg
 have H0:=hg
 unfold F md
 try simp only [SS]
 refine ct (Z41.aj trivial) ?_
 refine av ret (fun c1=>?_) (fun _=>rfl)
 refine ct (Z68.aj H0) ?_
 all_goals exact fz
theorem af:cw 70 aV:=W1 11 F mix aD bq (.cons Z41.af (.cons Z68.af .nil)) Tryz.func70
theorem tr {a0:List aa}(h:md a0=true):1≤a0.length∧a0.length≤12:=by simp [md,Z41.md] at h;omega
theorem qC {l:List aa}(h:md l=true):∀i,i<l.length→Z47.md (l.getD i aa.zero).aq=true:=by
 intro i hi
 have hl:=tr h
 have h1:Z68.md l<0:=by
  unfold md at h
  cases hc:Z41.md (l.length:Int) 1 12<;>rw [hc] at h
  ·cases h
  ·simpa using h
 unfold Z68.md at h1
 have h2:=sE (z:=aa.zero) (by
  intro i x s b h
  revert h
  simp only [Bool.cond_eq_ite]
  repeat' split
  all_goals (intro h;first | (cases h;rfl) | cases h)) h1 i hi
 by_cases h0:i=0
 ·subst h0
  cases hf:Z58.md (l.getD 0 aa.zero)
  ·rw [hf] at h2;cases h2
  ·unfold Z58.md at hf
   cases hh:Z47.md (l.getD 0 aa.zero).aq
   ·rw [hh] at hf;cases hf
   ·rfl
 ·have e:((i:Int)==0)=false:=beq_eq_false_iff_ne.2 (by omega)
  have e2:decide ((i:Int)>0)=true:=by simpa using by omega
  simp only [e,e2,bk,bf] at h2
  cases hf:Z67.md ((l.getD (toNat (i64.wrap ((i:Int) - 1))) aa.zero).aq) (l.getD i aa.zero)
  ·rw [hf] at h2;cases h2
  ·unfold Z67.md Z66.md at hf
   cases hh:Z47.md (l.getD i aa.zero).aq
   ·rw [hh] at hf
    cases hp:Z47.md ((l.getD (toNat (i64.wrap ((i:Int) - 1))) aa.zero).aq)<;>rw [hp] at hf<;>cases hf
   ·rfl
theorem AQ {l:List aa}(h:md l=true):∀i,i<l.length→(l.getD i aa.zero).aq.bA=(l.getD 0 aa.zero).aq.bA:=by
 have hl:=tr h
 have h1:Z68.md l<0:=by
  unfold md at h
  cases hc:Z41.md (l.length:Int) 1 12<;>rw [hc] at h
  ·cases h
  ·simpa using h
 unfold Z68.md at h1
 have h2:=sE (z:=aa.zero) (by
  intro i x s b h
  revert h
  simp only [Bool.cond_eq_ite]
  repeat' split
  all_goals (intro h;first | (cases h;rfl) | cases h)) h1
 intro i
 induction i with
 | zero=>intro _;rfl
 | succ i ih=>
  intro hi
  have h3:=h2 (i+1) hi
  have e:(((i+1:Nat):Int)==0)=false:=beq_eq_false_iff_ne.2 (by omega)
  have e2:decide (((i+1:Nat):Int)>0)=true:=by simpa using by omega
  have ei:toNat (i64.wrap (((i+1:Nat):Int) - 1))=i:=by simp (disch:=omega) only [wi];omega
  simp only [e,e2,bk,bf] at h3
  rw [ei] at h3
  cases hf:Z67.md ((l.getD i aa.zero).aq) (l.getD (i+1) aa.zero)
  ·rw [hf] at h3;cases h3
  ·unfold Z67.md Z66.md at hf
   cases hz:((l.getD (i+1) aa.zero).aq.bA != (l.getD i aa.zero).aq.bA)
   ·rw [←ih (by omega)];exact (by simpa using hz)
   ·rw [hz] at hf
    cases hp:Z47.md (l.getD i aa.zero).aq<;>rw [hp] at hf
    ·cases hf
    ·cases hh:Z47.md (l.getD (i+1) aa.zero).aq<;>rw [hh] at hf<;>cases hf
end Z69
namespace Z70
def F (x0:List (List L)):aG:=(call (Z69.R x0) fun v1=>(cond (!v1) (ret (((⟨0,0,0,0,0,0,0,0,(⟨[],0⟩:bu),(⟨[],0⟩:bu),0,(⟨[],0⟩:bu),false⟩:bU),false):bU×Bool)) (bX (decide ((0:Int)≤(i64.wrap ((x0.length:Int) - 1)))) (bX (decide ((i64.wrap ((x0.length:Int) - 1))<(x0.length:Int))) (call (Z36.R ((aO.at x0 (toNat (i64.wrap ((x0.length:Int) - 1)))).aq)) fun v2=>ret ((v2,true):bU×Bool))))))
def md (a0:List aa):aC×Bool:=(cond (!(Z69.md a0)) ((⟨0,0,0,0,0,0,0,0,(⟨[],0⟩:aJ),(⟨[],0⟩:aJ),0,(⟨[],0⟩:aJ),false⟩:aC),false) (((a0.getD (toNat (i64.wrap ((a0.length:Int) - 1))) aa.zero).aq),true))
def gd (a0:List aa):Prop:=(bK (2^21) (fun y:aa=>aa.Sm (2^21) y) a0)
def R:=RR gd md
theorem aj {a0}(h:gd a0):R (a0.map aa.row)=some ((aC.r (md a0).1),(md a0).2):=aM (a:=a0) h
def aV:=CN [pL 123] (.iT [(true,f102),(false,[fB])]) RT.dec R
theorem bq (a0)(hg:gd a0):F (a0.map aa.row)=ret ((aC.r (md a0).1),(md a0).2):=by
 unfold gd at hg
 have H0:=hg
 unfold F md
 try simp only [SS]
 refine ct (Z69.aj H0) ?_
 refine av (fun b:aC×Bool=>ret (((aC.r b.1),b.2):bU×Bool)) (fun c1=>?_) (fun c1=>?_)
 ·all_goals exact fz
 ·have dc1:=c1
  try simp only [DC] at dc1
  try have tc1:=Z69.tr (by simpa using c1)
  refine ak (have:=(H0).1;dt) ?_
  refine ak (have:=(H0).1;dt) ?_
  refine ct (Z36.aj (bK.getD (z:=aa.zero) H0 (by first | assumption | omega | (simp (disch:=omega) only [wi];omega) | (simp;omega))).1) ?_
  try simp only [SS]
  all_goals exact fz
theorem af:cw 71 aV:=W1 16 F mix aD bq (.cons Z69.af (.cons Z36.af .nil)) Tryz.func71
theorem head {l:List aa}(h:(md l).2=true):Z69.md l=true∧(md l).1=(l.getD (l.length - 1) aa.zero).aq∧Z47.md (md l).1=true:=by
 unfold md at h ⊢
 cases hc:Z69.md l
 ·rw [hc] at h;cases h
 ·have hl:=Z69.tr hc
  have hw:toNat (i64.wrap ((l.length:Int) - 1))=l.length - 1:=by
   rw [Go.IntWalk.i64_in _ (by omega)];omega
  simp only [Bool.not_true,bk,hw]
  exact ⟨trivial,trivial,Z69.qC hc _ (by omega)⟩
end Z70
namespace Z71
def F (x0:aS):aG:=(cond (x0.bD==1) (call (Z42.R x0.aW) fun v1=>(cond v1 (call (Z41.R (x0.bS,0,999999)) fun v2=>(cond v2 (ret (((x0.bC.length:Int)==0):Bool)) (ret (false:Bool)))) (ret (false:Bool)))) (cond (x0.bD==2) (call (Z42.R x0.aW) fun v3=>(cond v3 (call (Z41.R (x0.bS,0,2147483646)) fun v4=>(cond v4 (ret (((x0.bC.length:Int)==0):Bool)) (ret (false:Bool)))) (ret (false:Bool)))) (cond (x0.bD==3) (call (Z42.R x0.aW) fun v5=>(cond v5 (call (Z41.R (x0.bS,0,2147483646)) fun v6=>(cond v6 (call (Z43.R x0.bC) fun v7=>ret (v7:Bool)) (ret (false:Bool)))) (ret (false:Bool)))) (ret (false:Bool)))))
def md (a0:ah):Bool:=(cond (a0.bD==1) (cond (Z42.md a0.aW) (cond (Z41.md a0.bS 0 999999) (((a0.bC.length:Int)==0):Bool) (false:Bool)) (false:Bool)) (cond (a0.bD==2) (cond (Z42.md a0.aW) (cond (Z41.md a0.bS 0 2147483646) (((a0.bC.length:Int)==0):Bool) (false:Bool)) (false:Bool)) (cond (a0.bD==3) (cond (Z42.md a0.aW) (cond (Z41.md a0.bS 0 2147483646) ((Z43.md a0.bC):Bool) (false:Bool)) (false:Bool)) (false:Bool))))
def gd (a0:ah):Prop:=(ah.Sm (2^21) a0)
def R:=RR gd md
theorem aj {a0}(h:gd a0):R (ah.r a0)=some (md a0):=aM (a:=a0) h
def aV:=CN [.agg ru] oB RT.dec R
theorem bq (a0)(hg:gd a0):F (ah.r a0)=ret (md a0):=by
 unfold gd at hg
 have H0:=hg
 unfold F md
 try simp only [SS]
 refine av ret (fun c1=>?_) (fun c1=>?_)
 ·refine ct (Z42.aj (Nat.le_trans H0.1 (by decide))) ?_
  refine av ret (fun c2=>?_) (fun _=>rfl)
  refine ct (Z41.aj trivial) ?_
  refine av ret (fun c3=>?_) (fun _=>rfl)
  all_goals exact fz
 ·refine av ret (fun c4=>?_) (fun c4=>?_)
  ·refine ct (Z42.aj (Nat.le_trans H0.1 (by decide))) ?_
   refine av ret (fun c5=>?_) (fun _=>rfl)
   refine ct (Z41.aj trivial) ?_
   refine av ret (fun c6=>?_) (fun _=>rfl)
   all_goals exact fz
  ·refine av ret (fun c7=>?_) (fun _=>rfl)
   refine ct (Z42.aj (Nat.le_trans H0.1 (by decide))) ?_
   refine av ret (fun c8=>?_) (fun _=>rfl)
   refine ct (Z41.aj trivial) ?_
   refine av ret (fun c9=>?_) (fun _=>rfl)
   refine ct (Z43.aj (H0.2.mono (by decide) (fun x hx=>(Nat.le_trans hx (by decide))))) ?_
   all_goals exact fz
theorem af:cw 408 aV:=W1 52 F mix aD bq (.cons Z42.af (.cons Z41.af (.cons Z43.af .nil))) Tryz.func408
end Z71
namespace Z72
def F (x0:ByteArray)(x1:ByteArray):aG:=(cond (Op.bytesLess x0.toList x1.toList) (ret ((-1):Int)) (cond (!((Op.bytesLess x0.toList x1.toList)||(x0.toList==x1.toList))) (ret (1:Int)) (ret (0:Int))))
def md (a0:ByteArray)(a1:ByteArray):Int:=(cond (Op.bytesLess a0.toList a1.toList) ((-1):Int) (cond (!((Op.bytesLess a0.toList a1.toList)||(a0.toList==a1.toList))) (1:Int) (0:Int)))
def gd (a0:ByteArray)(a1:ByteArray):Prop:=True
def R:=RR (p2 gd) (u2 md)
theorem aj {a0 a1}(h:gd a0 a1):R (a0,a1)=some (md a0 a1):=aM (a:=(a0,a1)) h
def aV:=CN [pS,pS] oI RT.dec R
theorem bq (a0)(a1)(hg:gd a0 a1):F a0 a1=ret (md a0 a1):=by
 unfold F md
 try simp only [SS]
 refine av ret (fun _=>rfl) (fun c1=>?_)
 refine av ret (fun _=>rfl) (fun _=>rfl)
theorem af:cw 195 aV:=W2 13 F mix aD bq .nil Tryz.func195
theorem vals (a b:ByteArray):md a b=-1∨md a b=0∨md a b=1:=by
 unfold md
 cases Op.bytesLess a.toList b.toList
 ·cases (!(false||(a.toList==b.toList)))<;>simp
 ·simp
theorem lt (a b:ByteArray):decide (md a b<0)=(md a b == -1):=by
 rcases vals a b with h | h | h<;>rw [h]<;>rfl
theorem gt (a b:ByteArray):decide (md a b>0)=(md a b==1):=by
 rcases vals a b with h | h | h<;>rw [h]<;>rfl
theorem bl:∀a b:List UInt8,(Op.bytesLess a b||a==b)=!(Op.bytesLess b a)
 | [],[]=>by simp [Op.bytesLess]
 | [],_::_=>by simp [Op.bytesLess]
 | _::_,[]=>by simp [Op.bytesLess]
 | a::xs,b::ys=>by
  have ih:=bl xs ys
  simp only [Op.bytesLess]
  by_cases h1:a<b
  ·have h2:¬b<a:=UInt8.not_lt.2 (UInt8.le_of_lt h1)
   have h3:¬b=a:=fun h=>by subst h;exact UInt8.lt_irrefl _ h1
   simp [h1,h2,h3]
  ·by_cases h2:a=b
   ·subst h2
    have hr:¬a<a:=UInt8.lt_irrefl a
    simp only [hr,decide_false,Bool.false_or,beq_self_eq_true,Bool.true_and,List.cons_beq_cons]
    exact ih
   ·have h3:b<a:=by
     rcases UInt8.lt_or_lt_of_ne h2 with h | h
     ·exact (h1 h).elim
     ·exact h
    simp [h1,h2,h3,List.cons_beq_cons]
theorem swap (a b:ByteArray):decide (md a b≤0)=(md b a != -1):=by
 unfold md
 rw [bl a.toList b.toList,bl b.toList a.toList]
 have h:=bl a.toList b.toList
 cases h1:Op.bytesLess a.toList b.toList<;>cases h2:Op.bytesLess b.toList a.toList<;>rw [h1,h2] at h<;>simp at h ⊢
end Z72
namespace Z73
inductive Pt where
 | p0 (a:List (List L)) (b:Int)
def pid:Pt→Nat
 | .p0 ..=>2
def bY:Pt→List V
 | .p0 a b=>[.sl none 61 a,.int .i64 b]
def bZ:Pt→List aU
 | .p0 a b=>[]
def step (J:Pt→aG):Pt→aG
 | .p0 a b=>(cond (decide (b<(a.length:Int))) (m2 b (a.length:Int) (call (Z71.R (aS.at a (toNat b))) fun v1=>(cond (!v1) (ret (false:Bool)) (cond (decide (b>0)) (bX (decide ((0:Int)≤(i64.wrap (b - 1)))) (bX (decide ((i64.wrap (b - 1))<(a.length:Int))) (m2 b (a.length:Int) (call (Z72.R ((aS.at a (toNat (i64.wrap (b - 1)))).aW,(aS.at a (toNat b)).aW)) fun v2=>(cond (v2 != (-1)) (ret (false:Bool)) (J (.p0 a (i64.wrap (b+1))))))))) (J (.p0 a (i64.wrap (b+1)))))))) (ret ((decide ((a.length:Int)≤12)):Bool)))
def start (J:Pt→aG)(x0:List (List L)):aG:=J (.p0 x0 0)
def live:Nat→Live:=fun i=>match i with | 2=>[(0,none),(3,none)] | _=>[]
def md (a0:List ah):Bool:=(dS (S:=Unit) (β:=Bool) (fun (i1:Nat) (y1:ah) (s3:Unit)=>(cond (!(Z71.md y1)) (.inr (false:Bool)) (cond (decide ((i1:Int)>0)) (cond ((Z72.md ((a0.getD (toNat (i64.wrap ((i1:Int) - 1))) ah.zero).aW) (y1.aW)) != (-1)) (.inr (false:Bool)) (.inl ())) (.inl ())))) (fun (s3:Unit)=>((decide ((a0.length:Int)≤12)):Bool)) 0 a0 ())
def gd (a0:List ah):Prop:=(bK (2^21) (fun y:ah=>ah.Sm (2^21) y) a0)
def R:=RR gd md
theorem aj {a0}(h:gd a0):R (a0.map ah.row)=some (md a0):=aM (a:=a0) h
def aV:=CN [pL 61] oB RT.dec R
theorem bq (a0)(hg:gd a0):∃n,start (iter step n) (a0.map ah.row)=ret (md a0):=by
 unfold gd at hg
 have H0:=hg
 unfold start md
 try simp only [SS]
 have Bh2:a0.length≤maxLen:=(by
   have:=(H0).1
   try simp only [maxLen] at *
   omega)
 refine ex_eq (out:=ret) (cX (z:=ah.zero)) ?_
 refine dN (p:=Pt.p0 (a0.map ah.row) 0) fz ?_
 refine ck (pt:=fun (i1:Nat) (s3:Unit)=>Pt.p0 (a0.map ah.row) (i1:Int)) (s:=(():Unit)) (out:=ret) (fun _ _=>True) (fun J i1 s3 h2 hih2=>?_) (fun s3 hih2=>?_) trivial
 ·simp only [step,SS]
  have bb_:=Bh2
  simp only [maxLen] at bb_
  have:=(H0).1
  refine bt.yes (by apply decide_eq_true;omega) ?_
  refine bt.yes aH ?_
  refine bt.yes (aL h2) ?_
  refine cr (Z71.aj (bK.getD (z:=ah.zero) H0 h2)) ?_
  refine bt.bif (fun _=>bt.inr rfl) (fun c4=>?_)
  have dc4:=c4
  try simp only [DC] at dc4
  refine bt.bif (fun c5=>?_) (fun c5=>?_)
  ·have dc5:=c5
   try simp only [DC] at dc5
   refine bt.yes dt ?_
   refine bt.yes (have:=(H0).1;dt) ?_
   refine bt.yes aH ?_
   refine bt.yes (aL h2) ?_
   refine cr (Z72.aj trivial) ?_
   refine bt.bif (fun _=>bt.inr rfl) (fun c6=>?_)
   refine bt.inl trivial ?_
   rw [aE h2 Bh2]
   all_goals exact fz
  ·refine bt.inl trivial ?_
   rw [aE h2 Bh2]
   all_goals exact fz
 ·simp only [step,SS]
  have:=(H0).1
  refine dx (by apply decide_eq_false;omega) ?_
  refine ⟨0,?_⟩
  all_goals exact fz
theorem af:cw 463 aV:=L1 38 pid bY bZ live step start mix aD bq (.cons Z71.af (.cons Z72.af .nil)) Tryz.func463
end Z73
namespace Z74
inductive Pt where
 | p0 (a:List (List L)) (b:Int) (c:List (List L))
def pid:Pt→Nat
 | .p0 ..=>3
def bY:Pt→List V
 | .p0 a b c=>[.sl none 5 a,.own 0,.int .i64 b]
def bZ:Pt→List aU
 | .p0 a b c=>[.row 3 c]
def step (J:Pt→aG):Pt→aG
 | .p0 a b c=>(cond (decide (b<(a.length:Int))) (m2 b (a.length:Int) (bX (eU (((c.length:Int)+1)*8)) (J (.p0 a (i64.wrap (b+1)) (c++[[L.int (i64.wrap (jv a (toNat b)))]]))))) (ret (c:List (List L))))
def start (J:Pt→aG)(x0:List (List L)):aG:=J (.p0 x0 0 [[L.int (x0.length:Int)]])
def live:Nat→Live:=fun i=>match i with | 3=>[(0,none),(3,none),(4,none)] | _=>[]
def md (a0:List Int):List Int:=([(a0.length:Int)]++a0.map (fun (y1:Int)=>(i64.wrap y1)))
def gd (a0:List Int):Prop:=(bK (2^38) (fun y:Int=>True) a0)
def R:=RR gd md
theorem aj {a0}(h:gd a0):R (a0.map aZ)=some ((md a0).map aZ):=aM (a:=a0) h
def aV:=CN [pL 5] (oL 3) RT.dec R
theorem bq (a0)(hg:gd a0):∃n,start (iter step n) (a0.map aZ)=ret ((md a0).map aZ):=by
 unfold gd at hg
 have H0:=hg
 unfold start md
 try simp only [SS]
 have Bh2:a0.length≤maxLen:=(by
   have:=(H0).1
   try simp only [maxLen] at *
   omega)
 refine ex_eq (out:=(fun b:List Int=>ret ((b.map aZ):List (List L)))) (lR (g:=fun (y1:Int)=>(i64.wrap y1)) (z:=0) (t:=fun (s3:List Int)=>s3) (s:=[(a0.length:Int)])) ?_
 refine dN (p:=Pt.p0 (a0.map aZ) 0 ([(a0.length:Int)].map aZ)) fz ?_
 refine ck (pt:=fun (i1:Nat) (s3:List Int)=>Pt.p0 (a0.map aZ) (i1:Int) (s3.map aZ)) (s:=([(a0.length:Int)]:List Int)) (out:=(fun b:List Int=>ret ((b.map aZ):List (List L)))) (fun (i1:Nat) (s3:List Int)=>s3.length≤[(a0.length:Int)].length+1*i1) (fun J i1 s3 h2 hih2=>?_) (fun s3 hih2=>?_) (by simp)
 ·simp only [step,SS]
  have gr_:=hih2
  try simp only [LN] at gr_
  have:=(H0).1
  have bb_:=Bh2
  simp only [maxLen] at bb_
  have:=(H0).1
  refine bt.yes (by apply decide_eq_true;omega) ?_
  refine bt.yes aH ?_
  refine bt.yes (aL h2) ?_
  refine bt.yes lm ?_
  refine bt.inl (by
    have g_:=hih2
    try simp only [LN] at g_ ⊢
    first | omega | (simp;done) | (simp;omega)) ?_
  rw [aE h2 Bh2]
  all_goals exact fz
 ·simp only [step,SS]
  have gr_:=hih2
  try simp only [LN] at gr_
  have:=(H0).1
  have:=(H0).1
  refine dx (by apply decide_eq_false;omega) ?_
  refine ⟨0,?_⟩
  all_goals exact fz
theorem af:cw 593 aV:=L1 23 pid bY bZ live step start mix aD bq .nil Tryz.func593
theorem len (a0:List Int):(md a0).length=1+a0.length:=by simp [md];omega
end Z74
namespace Z75
def F (x0:ByteArray):aG:=(bX (decide ((x0.size:Int)≤140737488355328)) (call (Z74.R (iF x0)) fun v1=>ret (v1:List (List L))))
def md (a0:ByteArray):List Int:=(Z74.md (iU a0))
def gd (a0:ByteArray):Prop:=(a0.size≤(2^21))
def R:=RR gd md
theorem aj {a0}(h:gd a0):R a0=some ((md a0).map aZ):=aM (a:=a0) h
def aV:=CN [pS] (oL 3) RT.dec R
theorem bq (a0)(hg:gd a0):F a0=ret ((md a0).map aZ):=by
 unfold gd at hg
 have H0:=hg
 unfold F md
 try simp only [SS]
 refine ak (have:=H0;dt) ?_
 refine bh ((Z74.md (iU a0)).map aZ) (rq (Z74.aj (a0:=(iU a0)) ⟨(have:=gJ a0;have:=H0;om),fun _ _=>trivial⟩)) ?_
 try simp only [SS]
 all_goals exact fz
theorem af:cw 580 aV:=W1 6 F mix aD bq (.cons Z74.af .nil) Tryz.func580
theorem len (a0:ByteArray):(md a0).length=1+a0.size:=by simp [md,Z74.len,gJ]
end Z75
namespace Z76
inductive Pt where
 | p0 (a:Int) (b:aS) (c:List (List L))
def pid:Pt→Nat
 | .p0 ..=>3
def bY:Pt→List V
 | .p0 a b c=>[.dc 0 0,.own 1,.int .i64 a]
def bZ:Pt→List aU
 | .p0 a b c=>[.box [.str b.aW,.int .i64 b.bD,.int .i64 b.bS,.sl none 9 b.bC],.row 3 c]
def step (J:Pt→aG):Pt→aG
 | .p0 a b c=>(cond (decide (a<(b.bC.length:Int))) (m2 a (b.bC.length:Int) (call (Z75.R (pZ b.bC (toNat a))) fun v1=>(bX (eU (((c.length:Int)+(v1.length:Int))*8)) (J (.p0 (i64.wrap (a+1)) b (c++v1)))))) (ret (c:List (List L))))
def start (J:Pt→aG)(x0:aS):aG:=(call (Z75.R x0.aW) fun v1=>(bX (eU (((v1.length:Int)+3)*8)) (J (.p0 0 x0 (v1++[[L.int x0.bD],[L.int x0.bS],[L.int (x0.bC.length:Int)]])))))
def live:Nat→Live:=fun i=>match i with | 3=>[(1,none),(3,none),(4,none)] | _=>[]
def md (a0:ah):List Int:=(((Z75.md a0.aW)++[a0.bD,a0.bS,(a0.bC.length:Int)])++a0.bC.flatMap (fun (y1:ByteArray)=>(Z75.md y1)))
def gd (a0:ah):Prop:=(ah.Sm (2^21) a0)
def R:=RR gd md
theorem aj {a0}(h:gd a0):R (ah.r a0)=some ((md a0).map aZ):=aM (a:=a0) h
def aV:=CN [.agg ru] (oL 3) RT.dec R
theorem bq (a0)(hg:gd a0):∃n,start (iter step n) (ah.r a0)=ret ((md a0).map aZ):=by
 unfold gd at hg
 have H0:=hg
 unfold start md
 try simp only [SS]
 refine cx (Z75.aj H0.1) ?_
 try simp only [SS]
 refine dI (have:=Z75.len a0.aW;have:=H0.1;lm) ?_
 have Bh2:a0.bC.length≤maxLen:=(by
   have:=(H0.2).1
   try simp only [maxLen] at *
   omega)
 refine ex_eq (out:=(fun b:List Int=>ret ((b.map aZ):List (List L)))) (qK (g:=fun (y1:ByteArray)=>(Z75.md y1)) (z:=⟨#[]⟩) (t:=fun (s3:List Int)=>s3) (s:=((Z75.md a0.aW)++[a0.bD,a0.bS,(a0.bC.length:Int)]))) ?_
 refine dN (p:=Pt.p0 0 (ah.r a0) (((Z75.md a0.aW)++[a0.bD,a0.bS,(a0.bC.length:Int)]).map aZ)) fz ?_
 refine ck (pt:=fun (i1:Nat) (s3:List Int)=>Pt.p0 (i1:Int) (ah.r a0) (s3.map aZ)) (s:=(((Z75.md a0.aW)++[a0.bD,a0.bS,(a0.bC.length:Int)]):List Int)) (out:=(fun b:List Int=>ret ((b.map aZ):List (List L)))) (fun (i1:Nat) (s3:List Int)=>s3.length≤4+a0.aW.size+i1*(2^21+1)) (fun J i1 s3 h2 hih2=>?_) (fun s3 hih2=>?_) (by
   have:=(H0.2).1
   have:=Z75.len a0.aW
   have:=H0.1
   try simp only [LN]
   try simp
   try omega)
 ·simp only [step,SS]
  have gr_:=hih2
  try simp only [LN] at gr_
  have:=H0.1
  have bb_:=Bh2
  simp only [maxLen] at bb_
  have:=(H0.2).1
  refine bt.yes (by apply decide_eq_true;omega) ?_
  refine bt.yes aH ?_
  refine bt.yes (aL h2) ?_
  refine cr (Z75.aj (bK.getD (z:=⟨#[]⟩) H0.2 h2)) ?_
  try simp only [SS]
  refine bt.yes (have:=Z75.len (a0.bC.getD i1 ⟨#[]⟩);have:=(bK.getD (z:=⟨#[]⟩) H0.2 h2);lm) ?_
  refine bt.inl (by
    have:=Z75.len (a0.bC.getD i1 ⟨#[]⟩)
    have:=(bK.getD (z:=⟨#[]⟩) H0.2 h2)
    have g_:=hih2
    try simp only [LN] at g_ ⊢
    first | omega | (simp;done) | (simp;omega)) ?_
  rw [aE h2 Bh2]
  all_goals exact fz
 ·simp only [step,SS]
  have gr_:=hih2
  try simp only [LN] at gr_
  have:=H0.1
  have:=(H0.2).1
  refine dx (by apply decide_eq_false;omega) ?_
  refine ⟨0,?_⟩
  all_goals exact fz
theorem af:cw 546 aV:=L1 33 pid bY bZ live step start mix aD bq (.cons Z75.af .nil) Tryz.func546
theorem gh {a0:ah}(hg:gd a0):bK (2^43 - 1) (fun y:Int=>True) (md a0):=by
 unfold gd at hg
 refine ⟨?_,fun _ _=>trivial⟩
 unfold md
 have h1:=lK (xs:=a0.bC) (g:=fun y=>Z75.md y) (n:=2^21+1) (fun x hx=>by rw [Z75.len];have:=hg.2.2 x hx;omega)
 have h2:=hg.1
 have h3:=hg.2.1
 have h4:=Z75.len a0.aW
 simp only [List.length_append,List.length_cons,List.length_nil]
 omega
end Z76
namespace Z77
def F (x0:aS):aG:=(call (Z76.R x0) fun v1=>(bX (eU (((1:Int)+(v1.length:Int))*8)) (call (Z50.R ([[L.int 227]]++v1)) fun v2=>ret (v2:Int))))
def md (a0:ah):Int:=((Z50.md ([227]++(Z76.md a0))):Int)
def gd (a0:ah):Prop:=(ah.Sm (2^21) a0)
def R:=RR gd md
theorem aj {a0}(h:gd a0):R (ah.r a0)=some (md a0):=aM (a:=a0) h
def aV:=CN [.agg ru] oI RT.dec R
theorem bq (a0)(hg:gd a0):F (ah.r a0)=ret (md a0):=by
 unfold gd at hg
 have H0:=hg
 unfold F md
 try simp only [SS]
 refine ct (Z76.aj H0) ?_
 try simp only [SS]
 refine ak (have:=((Z76.gh (a0:=a0) H0)).1;lm) ?_
 refine bh (Z50.md ([227]++(Z76.md a0))) (rq (Z50.aj (a0:=([227]++(Z76.md a0))) ⟨(have:=((Z76.gh (a0:=a0) H0)).1;om),fun _ _=>trivial⟩)) ?_
 all_goals exact fz
theorem af:cw 470 aV:=W1 8 F mix aD bq (.cons Z76.af (.cons Z50.af .nil)) Tryz.func470
end Z77
namespace Z78
inductive Pt where
 | p0 (a:List (List L)) (b:Int) (c:List (List L))
def pid:Pt→Nat
 | .p0 ..=>3
def bY:Pt→List V
 | .p0 a b c=>[.sl none 61 a,.own 0,.int .i64 b]
def bZ:Pt→List aU
 | .p0 a b c=>[.row 3 c]
def step (J:Pt→aG):Pt→aG
 | .p0 a b c=>(cond (decide (b<(a.length:Int))) (m2 b (a.length:Int) (call (Z77.R (aS.at a (toNat b))) fun v1=>(bX (eU (((c.length:Int)+1)*8)) (J (.p0 a (i64.wrap (b+1)) (c++[[L.int v1]])))))) (ret (c:List (List L))))
def start (J:Pt→aG)(x0:List (List L)):aG:=J (.p0 x0 0 [])
def live:Nat→Live:=fun i=>match i with | 3=>[(0,none),(3,some 3),(4,none)] | _=>[]
def md (a0:List ah):List Int:=(a0.map (fun (y1:ah)=>(Z77.md y1)))
def gd (a0:List ah):Prop:=(bK (2^21) (fun y:ah=>ah.Sm (2^21) y) a0)
def R:=RR gd md
theorem aj {a0}(h:gd a0):R (a0.map ah.row)=some ((md a0).map aZ):=aM (a:=a0) h
def aV:=CN [pL 61] (oL 3) RT.dec R
theorem bq (a0)(hg:gd a0):∃n,start (iter step n) (a0.map ah.row)=ret ((md a0).map aZ):=by
 unfold gd at hg
 have H0:=hg
 unfold start md
 try simp only [SS]
 have Bh2:a0.length≤maxLen:=(by
   have:=(H0).1
   try simp only [maxLen] at *
   omega)
 refine ex_eq (out:=(fun b:List Int=>ret ((b.map aZ):List (List L)))) (mL (g:=fun (y1:ah)=>(Z77.md y1)) (z:=ah.zero) (t:=fun (s3:List Int)=>s3)) ?_
 refine dN (p:=Pt.p0 (a0.map ah.row) 0 ([].map aZ)) fz ?_
 refine ck (pt:=fun (i1:Nat) (s3:List Int)=>Pt.p0 (a0.map ah.row) (i1:Int) (s3.map aZ)) (s:=([]:List Int)) (out:=(fun b:List Int=>ret ((b.map aZ):List (List L)))) (fun (i1:Nat) (s3:List Int)=>s3.length≤([]:List Int).length+1*i1) (fun J i1 s3 h2 hih2=>?_) (fun s3 hih2=>?_) (by simp)
 ·simp only [step,SS]
  have gr_:=hih2
  try simp only [LN] at gr_
  have bb_:=Bh2
  simp only [maxLen] at bb_
  have:=(H0).1
  refine bt.yes (by apply decide_eq_true;omega) ?_
  refine bt.yes aH ?_
  refine bt.yes (aL h2) ?_
  refine cr (Z77.aj (bK.getD (z:=ah.zero) H0 h2)) ?_
  refine bt.yes lm ?_
  refine bt.inl (by
    have g_:=hih2
    try simp only [LN] at g_ ⊢
    first | omega | (simp;done) | (simp;omega)) ?_
  rw [aE h2 Bh2]
  all_goals exact fz
 ·simp only [step,SS]
  have gr_:=hih2
  try simp only [LN] at gr_
  have:=(H0).1
  refine dx (by apply decide_eq_false;omega) ?_
  refine ⟨0,?_⟩
  all_goals exact fz
theorem af:cw 462 aV:=L1 21 pid bY bZ live step start mix aD bq (.cons Z77.af .nil) Tryz.func462
theorem len (a0:List ah):(md a0).length=a0.length:=by simp [md]
end Z78
namespace Z79
def F (x0:Int)(x1:Int):aG:=(call (Z50.R [[L.int 229],[L.int x0],[L.int x1]]) fun v1=>ret (v1:Int))
def md (a0:Int)(a1:Int):Int:=((Z50.md [229,a0,a1]):Int)
def gd (a0:Int)(a1:Int):Prop:=True
def R:=RR (p2 gd) (u2 md)
theorem aj {a0 a1}(h:gd a0 a1):R (a0,a1)=some (md a0 a1):=aM (a:=(a0,a1)) h
def aV:=CN [pI,pI] oI RT.dec R
theorem bq (a0)(a1)(hg:gd a0 a1):F a0 a1=ret (md a0 a1):=by
 unfold F md
 try simp only [SS]
 refine bh (Z50.md [229,a0,a1]) (rq (Z50.aj (a0:=[229,a0,a1]) ⟨(om),fun _ _=>trivial⟩)) ?_
 all_goals exact fz
theorem af:cw 545 aV:=W2 9 F mix aD bq (.cons Z50.af .nil) Tryz.func545
end Z79
namespace Z80
inductive Pt where
 | p0 (a:List (List L)) (b:Int) (c:List (List L))
def pid:Pt→Nat
 | .p0 ..=>3
def bY:Pt→List V
 | .p0 a b c=>[.sl none 3 a,.own 0,.int .i64 b]
def bZ:Pt→List aU
 | .p0 a b c=>[.row 3 c]
def step (J:Pt→aG):Pt→aG
 | .p0 a b c=>(cond (decide (b<(a.length:Int))) (cond (decide ((i64.wrap (b+1))<(a.length:Int))) (m2 b (a.length:Int) (bX (decide ((0:Int)≤(i64.wrap (b+1)))) (bX (decide ((i64.wrap (b+1))<(a.length:Int))) (call (Z79.R ((jv a (toNat b)),(jv a (toNat (i64.wrap (b+1)))))) fun v1=>(bX (eU (((c.length:Int)+1)*8)) (J (.p0 a (i64.wrap (b+2)) (c++[[L.int v1]])))))))) (m2 b (a.length:Int) (bX (eU (((c.length:Int)+1)*8)) (J (.p0 a (i64.wrap (b+2)) (c++[[L.int (jv a (toNat b))]])))))) (ret (c:List (List L))))
def start (J:Pt→aG)(x0:List (List L)):aG:=J (.p0 x0 0 [])
def live:Nat→Live:=fun i=>match i with | 3=>[(0,none),(3,some 3),(4,none)] | _=>[]
def up:List Int→List Int
 | []=>[]
 | [a]=>[a]
 | a::b::r=>Z79.md a b::up r
theorem jZ:∀l:List Int,(up l).length=(l.length+1) / 2
 | []=>by simp [up]
 | [_]=>by simp [up]
 | _::_::r=>by
  have:=jZ r
  simp only [up,List.length_cons]
  omega
def md (a0:List Int):List Int:=up a0
def gd (a0:List Int):Prop:=bK (2^38) (fun y:Int=>True) a0
def R:=RR gd md
theorem aj {a0}(h:gd a0):R (a0.map aZ)=some ((md a0).map aZ):=aM (a:=a0) h
def aV:=CN [pL 3] (oL 3) RT.dec R
theorem bq (a0)(hg:gd a0):∃n,start (iter step n) (a0.map aZ)=ret ((md a0).map aZ):=by
 obtain ⟨H1,_⟩:=hg
 have key:∀(k i:Nat) (c:List Int),i+k=a0.length→c.length≤i→∃n,iter step n (Pt.p0 (a0.map aZ) (i:Int) (c.map aZ))=ret ((c++up (a0.drop i)).map aZ:List (List L)):=by
  intro k
  induction k using Nat.strongRecOn with
  | _ k ih=>
  intro i c hi hc
  match k,hi,ih with
  | 0,hi,_=>
   refine ⟨1,?_⟩
   show step (iter step 0) (Pt.p0 _ _ _)=_
   simp only [step,List.length_map]
   refine cN (decide_eq_false (by omega)) ?_
   rw [List.drop_eq_nil_of_le (by omega)]
   simp only [up,List.append_nil]
  | 1,hi,ih=>
   obtain ⟨n,hn⟩:=ih 0 (by omega) (i+1) (c++[a0.getD i 0]) (by omega) (by simp;omega)
   have h2:∃n,iter step n (Pt.p0 (a0.map aZ) (i64.wrap ((i:Int)+2)) ((c++[a0.getD i 0]).map aZ))=ret ((c++[a0.getD i 0]).map aZ:List (List L)):=by
    refine ⟨1,?_⟩
    show step (iter step 0) (Pt.p0 _ _ _)=_
    simp only [step,List.length_map]
    refine cN (decide_eq_false ?_) rfl
    rw [Go.IntWalk.i64_in _ (by omega)];omega
   obtain ⟨n,hn⟩:=h2
   refine ⟨n+1,?_⟩
   show step (iter step n) (Pt.p0 _ _ _)=_
   simp only [step,List.length_map,cF,gQ]
   refine ak (decide_eq_true (by omega)) (cN (decide_eq_false ?_) (ak (decide_eq_true (by omega)) (ak (decide_eq_true (by omega)) (ak (iS (by omega)) ?_))))
   ·rw [Go.IntWalk.i64_in _ (by omega)];omega
   ·rw [List.map_append] at hn
    refine Eq.trans hn ?_
    rw [List.drop_eq_getElem_cons (by omega),List.drop_eq_nil_of_le (by omega),eJ (by omega:i<a0.length)]
    simp only [up,List.map_append]
  | k+2,hi,ih=>
   obtain ⟨n,hn⟩:=ih k (by omega) (i+2) (c++[Z79.md (a0.getD i 0) (a0.getD (i+1) 0)]) (by omega) (by simp;omega)
   refine ⟨n+1,?_⟩
   show step (iter step n) (Pt.p0 _ _ _)=_
   have w1:i64.wrap ((i:Int)+1)=((i+1:Nat):Int):=by rw [Go.IntWalk.i64_in _ (by omega)];omega
   have w2:i64.wrap ((i:Int)+2)=((i+2:Nat):Int):=by rw [Go.IntWalk.i64_in _ (by omega)];omega
   simp only [step,List.length_map,w1,w2,cF,gQ]
   refine ak (decide_eq_true (by omega)) (ak (decide_eq_true (by omega)) (ak (decide_eq_true (by omega)) (ak (decide_eq_true (by omega)) (ak (decide_eq_true (by omega)) (ak (decide_eq_true (by omega)) ?_)))))
   refine bh (Z79.md (a0.getD i 0) (a0.getD (i+1) 0)) (Z79.aj trivial) (ak (iS (by omega)) ?_)
   rw [List.map_append] at hn
   refine Eq.trans hn ?_
   rw [List.drop_eq_getElem_cons (by omega:i<a0.length),List.drop_eq_getElem_cons (by omega:i+1<a0.length),eJ (by omega:i<a0.length),eJ (by omega:i+1<a0.length)]
   simp only [up,List.append_assoc,List.cons_append,List.nil_append]
 have:=key a0.length 0 [] (by omega) (by simp)
 unfold start md
 simpa using this
theorem af:cw 539 aV:=L1 38 pid bY bZ live step start mix aD bq (.cons Z79.af .nil) Tryz.func539
end Z80
namespace Z81
inductive Pt where
 | p0 (a:List (List L))
 | p1 (a:List (List L))
def pid:Pt→Nat
 | .p0 ..=>4
 | .p1 ..=>4
def bY:Pt→List V
 | .p0 a=>[.sl none 3 a]
 | .p1 a=>[.own 0]
def bZ:Pt→List aU
 | .p0 a=>[]
 | .p1 a=>[.row 3 a]
def step (J:Pt→aG):Pt→aG
 | .p0 a=>(cond (decide ((a.length:Int)>1)) (call (Z80.R a) fun v1=>J (.p1 v1)) (bX (decide ((0:Int)<(a.length:Int))) (ret ((jv a 0):Int))))
 | .p1 a=>(cond (decide ((a.length:Int)>1)) (call (Z80.R a) fun v1=>J (.p1 v1)) (bX (decide ((0:Int)<(a.length:Int))) (ret ((jv a 0):Int))))
def start (J:Pt→aG)(x0:List (List L)):aG:=(cond ((x0.length:Int)==0) (call (Z50.R [[L.int 229]]) fun v1=>ret (v1:Int)) (J (.p0 x0)))
def live:Nat→Live:=fun i=>match i with | 4=>[(3,none)] | _=>[]
def top:Nat→List Int→Int
 | 0,l=>l.getD 0 0
 | k+1,l=>if l.length>1 then top k (Z80.up l) else l.getD 0 0
def md (a0:List Int):Int:=(if a0.length=0 then Z50.md [229] else top a0.length a0)
def gd (a0:List Int):Prop:=bK (2^38) (fun y:Int=>True) a0
def R:=RR gd md
theorem aj {a0}(h:gd a0):R (a0.map aZ)=some (md a0):=aM (a:=a0) h
def aV:=CN [pL 3] oI RT.dec R
theorem bq (a0)(hg:gd a0):∃n,start (iter step n) (a0.map aZ)=ret (md a0):=by
 have one:∀(l:List Int) (r:Int) (n:Nat),bK (2^38) (fun y:Int=>True) l→0<l.length→(if l.length>1 then iter step n (Pt.p1 ((Z80.up l).map aZ))=ret r else ret (l.getD 0 0:Int)=ret r)→step (iter step n) (Pt.p0 (l.map aZ))=ret r∧step (iter step n) (Pt.p1 (l.map aZ))=ret r:=by
  intro l r n hl hp h
  simp only [step,List.length_map,gQ]
  by_cases h1:l.length>1
  ·rw [if_pos h1] at h
   have hx:∀y:aG,(cond (decide ((l.length:Int)>1)) (call (Z80.R (l.map aZ)) (fun v1=>iter step n (Pt.p1 v1))) y)=ret r:=fun y=>
    ak (decide_eq_true (by omega)) (bh ((Z80.up l).map aZ) (Z80.aj hl) h)
   exact ⟨hx _,hx _⟩
  ·rw [if_neg h1] at h
   have hx:∀y:aG,(cond (decide ((l.length:Int)>1)) y (cond (decide ((0:Int)<(l.length:Int))) (ret (l.getD 0 0:Int)) none))=ret r:=fun y=>
    cN (decide_eq_false (by omega)) (ak (decide_eq_true (by omega)) h)
   exact ⟨hx _,hx _⟩
 have key:∀(k:Nat) (l:List Int),bK (2^38) (fun y:Int=>True) l→0<l.length→l.length≤k+1→∃n,step (iter step n) (Pt.p0 (l.map aZ))=ret (top k l)∧step (iter step n) (Pt.p1 (l.map aZ))=ret (top k l):=by
  intro k
  induction k with
  | zero=>
   intro l hl hp hk
   exact ⟨0,one l _ 0 hl hp (by rw [if_neg (by omega)];rfl)⟩
  | succ k ih=>
   intro l hl hp hk
   by_cases h1:l.length>1
   ·have hu:=Z80.jZ l
    have hl1:=hl.1
    obtain ⟨n,_,hn⟩:=ih (Z80.up l) ⟨by omega,fun _ _=>trivial⟩ (by omega) (by omega)
    refine ⟨n+1,one l _ (n+1) hl hp ?_⟩
    rw [if_pos h1]
    refine Eq.trans hn ?_
    unfold top
    rw [if_pos h1]
    cases k<;>rfl
   ·refine ⟨0,one l _ 0 hl hp ?_⟩
    rw [if_neg h1]
    unfold top
    rw [if_neg h1]
 unfold md
 unfold start
 simp only [List.length_map]
 by_cases h0:a0.length=0
 ·have e:((a0.length:Int)==0)=true:=by simpa using List.length_eq_zero_iff.1 h0
  refine ⟨0,?_⟩
  rw [e]
  refine bh (Z50.md [229]) (Z50.aj (a0:=[229]) ⟨by decide,fun _ _=>trivial⟩) ?_
  rw [if_pos h0]
 ·have e:((a0.length:Int)==0)=false:=beq_eq_false_iff_ne.2 (by omega)
  obtain ⟨n,hn,_⟩:=key a0.length a0 hg (by omega) (by omega)
  refine ⟨n+1,?_⟩
  rw [e,if_neg h0]
  exact hn
theorem af:cw 547 aV:=L1 18 pid bY bZ live step start mix aD bq (.cons Z50.af (.cons Z80.af .nil)) Tryz.func547
end Z81
namespace Z82
def F (x0:Int)(x1:Int):aG:=(call (Z50.R [[L.int 231],[L.int x0],[L.int x1]]) fun v1=>ret (v1:Int))
def md (a0:Int)(a1:Int):Int:=((Z50.md [231,a0,a1]):Int)
def gd (a0:Int)(a1:Int):Prop:=True
def R:=RR (p2 gd) (u2 md)
theorem aj {a0 a1}(h:gd a0 a1):R (a0,a1)=some (md a0 a1):=aM (a:=(a0,a1)) h
def aV:=CN [pI,pI] oI RT.dec R
theorem bq (a0)(a1)(hg:gd a0 a1):F a0 a1=ret (md a0 a1):=by
 unfold F md
 try simp only [SS]
 refine bh (Z50.md [231,a0,a1]) (rq (Z50.aj (a0:=[231,a0,a1]) ⟨(om),fun _ _=>trivial⟩)) ?_
 all_goals exact fz
theorem af:cw 471 aV:=W2 9 F mix aD bq (.cons Z50.af .nil) Tryz.func471
end Z82
namespace Z83
def F (x0:List (List L)):aG:=(call (Z78.R x0) fun v1=>(call (Z81.R v1) fun v2=>(call (Z82.R ((x0.length:Int),v2)) fun v3=>ret (v3:Int))))
def md (a0:List ah):Int:=((Z82.md (a0.length:Int) (Z81.md (Z78.md a0))):Int)
def gd (a0:List ah):Prop:=(bK (2^21) (fun y:ah=>ah.Sm (2^21) y) a0)
def R:=RR gd md
theorem aj {a0}(h:gd a0):R (a0.map ah.row)=some (md a0):=aM (a:=a0) h
def aV:=CN [pL 61] oI RT.dec R
theorem bq (a0)(hg:gd a0):F (a0.map ah.row)=ret (md a0):=by
 unfold gd at hg
 have H0:=hg
 unfold F md
 try simp only [SS]
 refine ct (Z78.aj H0) ?_
 try simp only [SS]
 refine ct (Z81.aj ⟨(have:=Z78.len a0;have:=(H0).1;om),fun _ _=>trivial⟩) ?_
 refine ct (Z82.aj trivial) ?_
 all_goals exact fz
theorem af:cw 473 aV:=W1 9 F mix aD bq (.cons Z78.af (.cons Z81.af (.cons Z82.af .nil))) Tryz.func473
end Z83
namespace Z84
def F (x0:Int)(x1:List (List L)):aG:=(call (Z73.R x1) fun v1=>(cond v1 (call (Z83.R x1) fun v2=>ret ((v2==x0):Bool)) (ret (false:Bool))))
def md (a0:Int)(a1:List ah):Bool:=(cond (Z73.md a1) (((Z83.md a1)==a0):Bool) (false:Bool))
def gd (a0:Int)(a1:List ah):Prop:=(bK (2^21) (fun y:ah=>ah.Sm (2^21) y) a1)
def R:=RR (p2 gd) (u2 md)
theorem aj {a0 a1}(h:gd a0 a1):R (a0,(a1.map ah.row))=some (md a0 a1):=aM (a:=(a0,a1)) h
def aV:=CN [pI,pL 61] oB RT.dec R
theorem bq (a0)(a1)(hg:gd a0 a1):F a0 (a1.map ah.row)=ret (md a0 a1):=by
 unfold gd at hg
 have H1:=hg
 unfold F md
 try simp only [SS]
 refine ct (Z73.aj H1) ?_
 refine av ret (fun c1=>?_) (fun _=>rfl)
 refine ct (Z83.aj H1) ?_
 all_goals exact fz
theorem af:cw 460 aV:=W2 13 F mix aD bq (.cons Z73.af (.cons Z83.af .nil)) Tryz.func460
end Z84
namespace Z85
def F (x0:dH):aG:=(call (Z70.R x0.aQ) fun v1=>(cond v1.2 (cond (v1.1.cg==(x0.bH.length:Int)) (call (Z84.R (v1.1.cS,x0.bH)) fun v2=>ret (v2:Bool)) (ret (false:Bool))) (ret (false:Bool))))
def md (a0:aI):Bool:=(cond ((Z70.md a0.aQ).2) (cond ((Z70.md a0.aQ).1.cg==(a0.bH.length:Int)) ((Z84.md ((Z70.md a0.aQ).1.cS) a0.bH):Bool) (false:Bool)) (false:Bool))
def gd (a0:aI):Prop:=(aI.Sm (2^21) a0)
def R:=RR gd md
theorem aj {a0}(h:gd a0):R (aI.r a0)=some (md a0):=aM (a:=a0) h
def aV:=CN [.agg sH] oB RT.dec R
theorem bq (a0)(hg:gd a0):F (aI.r a0)=ret (md a0):=by
 unfold gd at hg
 have H0:=hg
 unfold F md
 try simp only [SS]
 refine ct (Z70.aj H0.1) ?_
 try simp only [SS]
 refine av ret (fun c1=>?_) (fun _=>rfl)
 refine av ret (fun c2=>?_) (fun _=>rfl)
 refine ct (Z84.aj H0.2) ?_
 all_goals exact fz
theorem af:cw 376 aV:=W1 27 F mix aD bq (.cons Z70.af (.cons Z84.af .nil)) Tryz.func376
end Z85
namespace Z86
def F (x0:dH):aG:=(call (Z70.R x0.aQ) fun v1=>(call (Z85.R x0) fun v2=>(cond (!v2) (ret ((-1):Int)) (ret (v1.1.bA:Int)))))
def md (a0:aI):Int:=(cond (!(Z85.md a0)) ((-1):Int) ((Z70.md a0.aQ).1.bA:Int))
def gd (a0:aI):Prop:=(aI.Sm (2^21) a0)
def R:=RR gd md
theorem aj {a0}(h:gd a0):R (aI.r a0)=some (md a0):=aM (a:=a0) h
def aV:=CN [.agg sH] oI RT.dec R
theorem bq (a0)(hg:gd a0):F (aI.r a0)=ret (md a0):=by
 unfold gd at hg
 have H0:=hg
 unfold F md
 try simp only [SS]
 refine ct (Z70.aj H0.1) ?_
 try simp only [SS]
 refine ct (Z85.aj H0) ?_
 refine av ret (fun _=>rfl) (fun c1=>?_)
 all_goals exact fz
theorem af:cw 263 aV:=W1 16 F mix aD bq (.cons Z70.af (.cons Z85.af .nil)) Tryz.func263
end Z86
namespace Z87
inductive Pt where
 | p0 (a:Int) (b:Int) (c:cI)
def pid:Pt→Nat
 | .p0 ..=>2
def bY:Pt→List V
 | .p0 a b c=>[.int .i64 a,.dc 0 0,.int .i64 b]
def bZ:Pt→List aU
 | .p0 a b c=>[.box [.sl none 293 c.bE,.int .i64 c.gP]]
def step (J:Pt→aG):Pt→aG
 | .p0 a b c=>(cond (decide (b<(c.bE.length:Int))) (m2 b (c.bE.length:Int) (call (Z86.R (dH.at c.bE (toNat b))) fun v1=>(cond (v1==a) (cond (decide (a≥0)) (ret (b:Int)) (J (.p0 a (i64.wrap (b+1)) c))) (J (.p0 a (i64.wrap (b+1)) c))))) (ret ((-1):Int)))
def start (J:Pt→aG)(x0:cI)(x1:Int):aG:=J (.p0 x1 0 x0)
def live:Nat→Live:=fun i=>match i with | 2=>[(1,none),(2,none),(5,none)] | _=>[]
def md (a0:az)(a1:Int):Int:=(dS (S:=Unit) (β:=Int) (fun (i1:Nat) (y1:aI) (s3:Unit)=>(cond ((Z86.md y1)==a1) (cond (decide (a1≥0)) (.inr ((i1:Int):Int)) (.inl ())) (.inl ()))) (fun (s3:Unit)=>((-1):Int)) 0 a0.bE ())
def gd (a0:az)(a1:Int):Prop:=(az.Sm (2^21) a0)
def R:=RR (p2 gd) (u2 md)
theorem aj {a0 a1}(h:gd a0 a1):R ((az.r a0),a1)=some (md a0 a1):=aM (a:=(a0,a1)) h
def aV:=CN [.agg yM,pI] oI RT.dec R
theorem bq (a0)(a1)(hg:gd a0 a1):∃n,start (iter step n) (az.r a0) a1=ret (md a0 a1):=by
 unfold gd at hg
 have H0:=hg
 unfold start md
 try simp only [SS]
 have Bh2:a0.bE.length≤maxLen:=(by
   have:=(H0).1
   try simp only [maxLen] at *
   omega)
 refine ex_eq (out:=ret) (cX (z:=aI.zero)) ?_
 refine dN (p:=Pt.p0 a1 0 (az.r a0)) fz ?_
 refine ck (pt:=fun (i1:Nat) (s3:Unit)=>Pt.p0 a1 (i1:Int) (az.r a0)) (s:=(():Unit)) (out:=ret) (fun _ _=>True) (fun J i1 s3 h2 hih2=>?_) (fun s3 hih2=>?_) trivial
 ·simp only [step,SS]
  have bb_:=Bh2
  simp only [maxLen] at bb_
  have:=(H0).1
  refine bt.yes (by apply decide_eq_true;omega) ?_
  refine bt.yes aH ?_
  refine bt.yes (aL h2) ?_
  refine cr (Z86.aj (bK.getD (z:=aI.zero) H0 h2)) ?_
  refine bt.bif (fun c4=>?_) (fun c4=>?_)
  ·refine bt.bif (fun c5=>?_) (fun c5=>?_)
   ·refine bt.inr ?_
    all_goals exact fz
   ·refine bt.inl trivial ?_
    rw [aE h2 Bh2]
    all_goals exact fz
  ·refine bt.inl trivial ?_
   rw [aE h2 Bh2]
   all_goals exact fz
 ·simp only [step,SS]
  have:=(H0).1
  refine dx (by apply decide_eq_false;omega) ?_
  refine ⟨0,?_⟩
  all_goals exact fz
theorem af:cw 435 aV:=L2 26 pid bY bZ live step start mix aD bq (.cons Z86.af .nil) Tryz.func435
theorem fa (a0:az)(a1:Int):-1≤md a0 a1∧md a0 a1<(a0.bE.length:Int):=by
 unfold md
 refine gb ?_ _ _
 all_goals
  intro i x s b h
  revert h
  simp only [Bool.cond_eq_ite]
  repeat' split
  all_goals (intro h;first | (cases h;rfl) | cases h)
end Z87
namespace Z88
inductive Pt where
 | p0 (a:List (List L)) (b:ByteArray) (c:Int)
def pid:Pt→Nat
 | .p0 ..=>2
def bY:Pt→List V
 | .p0 a b c=>[.sl none 61 a,.str b,.int .i64 c]
def bZ:Pt→List aU
 | .p0 a b c=>[]
def step (J:Pt→aG):Pt→aG
 | .p0 a b c=>(cond (decide (c<(a.length:Int))) (m2 c (a.length:Int) (cond ((aS.at a (toNat c)).aW==b) (ret (c:Int)) (J (.p0 a b (i64.wrap (c+1)))))) (ret ((-1):Int)))
def start (J:Pt→aG)(x0:List (List L))(x1:ByteArray):aG:=J (.p0 x0 x1 0)
def live:Nat→Live:=fun i=>match i with | 2=>[(0,none),(1,none),(5,none)] | _=>[]
def md (a0:List ah)(a1:ByteArray):Int:=(dS (S:=Unit) (β:=Int) (fun (i1:Nat) (y1:ah) (s3:Unit)=>(cond (y1.aW==a1) (.inr ((i1:Int):Int)) (.inl ()))) (fun (s3:Unit)=>((-1):Int)) 0 a0 ())
def gd (a0:List ah)(a1:ByteArray):Prop:=(bK (2^21) (fun y:ah=>ah.Sm (2^21) y) a0)
def R:=RR (p2 gd) (u2 md)
theorem aj {a0 a1}(h:gd a0 a1):R ((a0.map ah.row),a1)=some (md a0 a1):=aM (a:=(a0,a1)) h
def aV:=CN [pL 61,pS] oI RT.dec R
theorem bq (a0)(a1)(hg:gd a0 a1):∃n,start (iter step n) (a0.map ah.row) a1=ret (md a0 a1):=by
 unfold gd at hg
 have H0:=hg
 unfold start md
 try simp only [SS]
 have Bh2:a0.length≤maxLen:=(by
   have:=(H0).1
   try simp only [maxLen] at *
   omega)
 refine ex_eq (out:=ret) (cX (z:=ah.zero)) ?_
 refine dN (p:=Pt.p0 (a0.map ah.row) a1 0) fz ?_
 refine ck (pt:=fun (i1:Nat) (s3:Unit)=>Pt.p0 (a0.map ah.row) a1 (i1:Int)) (s:=(():Unit)) (out:=ret) (fun _ _=>True) (fun J i1 s3 h2 hih2=>?_) (fun s3 hih2=>?_) trivial
 ·simp only [step,SS]
  have bb_:=Bh2
  simp only [maxLen] at bb_
  have:=(H0).1
  refine bt.yes (by apply decide_eq_true;omega) ?_
  refine bt.yes aH ?_
  refine bt.yes (aL h2) ?_
  refine bt.bif (fun c4=>?_) (fun c4=>?_)
  ·refine bt.inr ?_
   all_goals exact fz
  ·refine bt.inl trivial ?_
   rw [aE h2 Bh2]
   all_goals exact fz
 ·simp only [step,SS]
  have:=(H0).1
  refine dx (by apply decide_eq_false;omega) ?_
  refine ⟨0,?_⟩
  all_goals exact fz
theorem af:cw 377 aV:=L2 20 pid bY bZ live step start mix aD bq .nil Tryz.func377
theorem fa (a0:List ah)(a1:ByteArray):-1≤md a0 a1∧md a0 a1<(a0.length:Int):=by
 unfold md
 refine gb ?_ _ _
 all_goals
  intro i x s b h
  revert h
  simp only [Bool.cond_eq_ite]
  repeat' split
  all_goals (intro h;first | (cases h;rfl) | cases h)
end Z88
namespace Z89
def F (x0:aS):aG:=(call (Z44.R x0.bC) fun v1=>ret ((⟨x0.aW,x0.bD,x0.bS,v1⟩:aS):aS))
def md (a0:ah):ah:=a0
def gd (a0:ah):Prop:=(ah.Sm (2^21) a0)
def R:=RR gd md
theorem aj {a0}(h:gd a0):R (ah.r a0)=some (ah.r a0):=aM (a:=a0) h
def aV:=CN [.agg ru] (.agg f61) RT.dec R
theorem bq (a0)(hg:gd a0):F (ah.r a0)=ret (ah.r (md a0)):=by
 unfold gd at hg
 have H0:=hg
 unfold F md
 try simp only [SS]
 refine ct (Z44.aj H0.2) ?_
 try simp only [SS]
 all_goals exact fz
theorem af:cw 286 aV:=W1 13 F mix aD bq (.cons Z44.af .nil) Tryz.func286
end Z89
namespace Z90
inductive Pt where
 | p0 (a:Int) (b:List (List L)) (c:List (List L))
 | p1 (a:Int) (b:List (List L)) (c:List (List L))
def pid:Pt→Nat
 | .p0 ..=>5
 | .p1 ..=>5
def bY:Pt→List V
 | .p0 a b c=>[.int .i64 a,.own 0,.sl none 3 b]
 | .p1 a b c=>[.int .i64 a,.own 0,.own 1]
def bZ:Pt→List aU
 | .p0 a b c=>[.row 3 c]
 | .p1 a b c=>[.row 3 b,.row 3 c]
def step (J:Pt→aG):Pt→aG
 | .p0 a b c=>(cond (decide ((b.length:Int)>1)) (cond (decide ((i64.wrap ((i64.wrap (a+1)) - (i64.wrap (2*(Int.tmod a 2)))))<(b.length:Int))) (bX (decide ((0:Int)≤(i64.wrap ((i64.wrap (a+1)) - (i64.wrap (2*(Int.tmod a 2))))))) (bX (decide ((i64.wrap ((i64.wrap (a+1)) - (i64.wrap (2*(Int.tmod a 2)))))<(b.length:Int))) (bX (eU (((c.length:Int)+1)*8)) (call (Z80.R b) fun v1=>J (.p1 (i64.wrap (Int.tdiv a 2)) (c++[[L.int (jv b (toNat (i64.wrap ((i64.wrap (a+1)) - (i64.wrap (2*(Int.tmod a 2)))))))]]) v1))))) (call (Z80.R b) fun v2=>J (.p1 (i64.wrap (Int.tdiv a 2)) c v2))) (ret (c:List (List L))))
 | .p1 a b c=>(cond (decide ((c.length:Int)>1)) (cond (decide ((i64.wrap ((i64.wrap (a+1)) - (i64.wrap (2*(Int.tmod a 2)))))<(c.length:Int))) (bX (decide ((0:Int)≤(i64.wrap ((i64.wrap (a+1)) - (i64.wrap (2*(Int.tmod a 2))))))) (bX (decide ((i64.wrap ((i64.wrap (a+1)) - (i64.wrap (2*(Int.tmod a 2)))))<(c.length:Int))) (bX (eU (((b.length:Int)+1)*8)) (call (Z80.R c) fun v1=>J (.p1 (i64.wrap (Int.tdiv a 2)) (b++[[L.int (jv c (toNat (i64.wrap ((i64.wrap (a+1)) - (i64.wrap (2*(Int.tmod a 2)))))))]]) v1))))) (call (Z80.R c) fun v2=>J (.p1 (i64.wrap (Int.tdiv a 2)) b v2))) (ret (b:List (List L))))
def start (J:Pt→aG)(x0:List (List L))(x1:Int):aG:=(call (Z41.R (x1,0,(i64.wrap ((x0.length:Int) - 1)))) fun v1=>(cond (!v1) (ret ([]:List (List L))) (J (.p0 x1 x0 []))))
def live:Nat→Live:=fun i=>match i with | 5=>[(1,none),(5,some 3),(6,none)] | _=>[]
def vh (i:Nat):Nat:=if i % 2=0 then i+1 else i - 1
def vg (i:Nat)(l c:List Int):List Int:=if vh i<l.length then c++[l.getD (vh i) 0] else c
def yY:Nat→Nat→List Int→List Int→List Int
 | 0,_,_,c=>c
 | k+1,i,l,c=>if l.length>1 then yY k (i / 2) (Z80.up l) (vg i l c) else c
theorem sX:∀(k i:Nat) (l c:List Int),(yY k i l c).length≤c.length+k
 | 0,_,_,c=>Nat.le_refl _
 | k+1,i,l,c=>by
  unfold yY
  by_cases h:l.length>1
  ·rw [if_pos h]
   have:=sX k (i / 2) (Z80.up l) (vg i l c)
   have h2:(vg i l c).length≤c.length+1:=by unfold vg;split<;>simp
   omega
  ·rw [if_neg h];omega
theorem half (i:Nat)(h:i<2^40):i64.wrap (Int.tdiv (i:Int) 2)=((i / 2:Nat):Int):=by
 rw [show Int.tdiv (i:Int) 2=((i / 2:Nat):Int) from rfl,wi _ (by omega)]
theorem Af (i:Nat)(h:i<2^40):i64.wrap (i64.wrap ((i:Int)+1) - i64.wrap (2*Int.tmod (i:Int) 2))=((vh i:Nat):Int):=by
 rw [show Int.tmod (i:Int) 2=((i % 2:Nat):Int) from rfl,wi ((i:Int)+1) (by omega),wi (2*((i % 2:Nat):Int)) (by omega),wi _ (by omega)]
 unfold vh
 split<;>omega
def md (a0:List Int)(a1:Int):List Int:=bif Z41.md a1 0 (i64.wrap ((a0.length:Int) - 1)) then yY a0.length a1.toNat a0 [] else []
def gd (a0:List Int)(a1:Int):Prop:=bK (2^38) (fun y:Int=>True) a0
def R:=RR (p2 gd) (u2 md)
theorem aj {a0 a1}(h:gd a0 a1):R ((a0.map aZ),a1)=some ((md a0 a1).map aZ):=aM (a:=(a0,a1)) h
def aV:=CN [pL 3,pI] (oL 3) RT.dec R
theorem bq (a0)(a1)(hg:gd a0 a1):∃n,start (iter step n) (a0.map aZ) a1=ret ((md a0 a1).map aZ):=by
 have one:∀(i:Nat) (l c r:List Int) (n:Nat),bK (2^38) (fun y:Int=>True) l→i<2^40→c.length<2^40→(if l.length>1 then iter step n (Pt.p1 ((i / 2:Nat):Int) ((vg i l c).map aZ) ((Z80.up l).map aZ))=ret (r.map aZ) else c=r)→
   step (iter step n) (Pt.p0 (i:Int) (l.map aZ) (c.map aZ))=ret (r.map aZ)∧step (iter step n) (Pt.p1 (i:Int) (c.map aZ) (l.map aZ))=ret (r.map aZ):=by
  intro i l c r n hl hi hc h
  have hs:=Af i hi
  have hd:=half i hi
  refine ⟨?_,?_⟩
  all_goals
   simp only [step,MM,List.length_map,gQ,hs,hd,cF]
   by_cases h1:l.length>1
   ·rw [if_pos h1] at h
    rw [decide_eq_true (show (l.length:Int)>1 by omega),bf]
    by_cases h2:vh i<l.length
    ·rw [vg,if_pos h2,List.map_append] at h
     rw [decide_eq_true (show ((vh i:Nat):Int)<(l.length:Int) by omega),bf,decide_eq_true (show (0:Int)≤((vh i:Nat):Int) by omega),bf,bf,iS (by omega),bf]
     exact bh ((Z80.up l).map aZ) (Z80.aj hl) h
    ·rw [vg,if_neg h2] at h
     rw [decide_eq_false (show ¬((vh i:Nat):Int)<(l.length:Int) by omega),bk]
     exact bh ((Z80.up l).map aZ) (Z80.aj hl) h
   ·rw [if_neg h1] at h
    rw [decide_eq_false (show ¬(l.length:Int)>1 by omega),bk,h]
 have key:∀(k i:Nat) (l c:List Int),bK (2^38) (fun y:Int=>True) l→l.length≤k→i<2^40→c.length+k<2^40→
   ∃n,step (iter step n) (Pt.p0 (i:Int) (l.map aZ) (c.map aZ))=ret ((yY k i l c).map aZ)∧step (iter step n) (Pt.p1 (i:Int) (c.map aZ) (l.map aZ))=ret ((yY k i l c).map aZ):=by
  intro k
  induction k with
  | zero=>intro i l c hl hk hi hc;exact ⟨0,one i l c _ 0 hl hi (by omega) (by rw [if_neg (by omega)];rfl)⟩
  | succ k ih=>
   intro i l c hl hk hi hc
   unfold yY
   by_cases h1:l.length>1
   ·have hu:=Z80.jZ l
    have hl1:=hl.1
    have h2:(vg i l c).length≤c.length+1:=by unfold vg;split<;>simp
    obtain ⟨n,_,hn⟩:=ih (i / 2) (Z80.up l) (vg i l c) ⟨by omega,fun _ _=>trivial⟩ (by omega) (by omega) (by omega)
    rw [if_pos h1]
    exact ⟨n+1,one i l c _ (n+1) hl hi (by omega) (by rw [if_pos h1];exact hn)⟩
   ·rw [if_neg h1]
    exact ⟨0,one i l c _ 0 hl hi (by omega) (by rw [if_neg h1])⟩
 unfold gd at hg
 unfold start md
 simp only [List.length_map]
 have hlen:=hg.1
 cases h:Z41.md a1 0 (i64.wrap ((a0.length:Int) - 1))
 ·exact ⟨0,bh false (by rw [←h];exact Z41.aj trivial) rfl⟩
 ·have hh:=h
  rw [wi _ (by omega)] at hh
  simp [Z41.md] at hh
  obtain ⟨i,rfl⟩:=Int.eq_ofNat_of_zero_le hh.1
  obtain ⟨n,hn,_⟩:=key a0.length i a0 [] hg (Nat.le_refl _) (by omega) (by simp only [List.length_nil];omega)
  exact ⟨n+1,bh true (by rw [←h];exact Z41.aj trivial) hn⟩
theorem af:cw 461 aV:=L2 42 pid bY bZ live step start mix aD bq (.cons Z41.af (.cons Z80.af .nil)) Tryz.func461
theorem len (a0:List Int)(a1:Int):(md a0 a1).length≤a0.length:=by
 unfold md
 cases Z41.md _ 0 _
 ·exact Nat.zero_le _
 ·exact Nat.le_trans (sX _ _ _ _) (by simp)
end Z90
namespace Z91
def F (x0:List (List L))(x1:ByteArray):aG:=(call (Z88.R (x0,x1)) fun v1=>(cond (decide (v1<0)) (ret (((⟨0,[]⟩:bN),false):bN×Bool)) (call (Z78.R x0) fun v2=>(call (Z90.R (v2,v1)) fun v3=>ret (((⟨v1,v3⟩:bN),true):bN×Bool)))))
def md (a0:List ah)(a1:ByteArray):aK×Bool:=(cond (decide ((Z88.md a0 a1)<0)) ((⟨0,[]⟩:aK),false) ((⟨(Z88.md a0 a1),(Z90.md (Z78.md a0) (Z88.md a0 a1))⟩:aK),true))
def gd (a0:List ah)(a1:ByteArray):Prop:=(bK (2^21) (fun y:ah=>ah.Sm (2^21) y) a0)
def R:=RR (p2 gd) (u2 md)
theorem aj {a0 a1}(h:gd a0 a1):R ((a0.map ah.row),a1)=some ((aK.r (md a0 a1).1),(md a0 a1).2):=aM (a:=(a0,a1)) h
def aV:=CN [pL 61,pS] (.iT [(true,f128),(false,[fB])]) RT.dec R
theorem bq (a0)(a1)(hg:gd a0 a1):F (a0.map ah.row) a1=ret ((aK.r (md a0 a1).1),(md a0 a1).2):=by
 unfold gd at hg
 have H0:=hg
 unfold F md
 try simp only [SS]
 refine ct (Z88.aj H0) ?_
 have fv1_:=Z88.fa a0 a1
 refine av (fun b:aK×Bool=>ret (((aK.r b.1),b.2):bN×Bool)) (fun c1=>?_) (fun c1=>?_)
 ·all_goals exact fz
 ·have dc1:=c1
  try simp only [DC] at dc1
  refine ct (Z78.aj H0) ?_
  try simp only [SS]
  refine ct (Z90.aj ⟨(have:=Z78.len a0;have:=(H0).1;om),fun _ _=>trivial⟩) ?_
  try simp only [SS]
  all_goals exact fz
theorem af:cw 378 aV:=W2 19 F mix aD bq (.cons Z88.af (.cons Z78.af (.cons Z90.af .nil))) Tryz.func378
theorem gh {a0:List ah}{a1:ByteArray}(hg:gd a0 a1):aK.Sm (2^21) ((md a0 a1).1):=by
 unfold gd at hg;unfold md
 cases decide (Z88.md a0 a1<0)
 ·refine ⟨?_,fun _ _=>trivial⟩
  have h:=Z90.len (Z78.md a0) (Z88.md a0 a1)
  rw [Z78.len] at h
  exact Nat.le_trans h hg.1
 ·exact bK.nil
theorem sz (a0:List ah)(a1:ByteArray):aK.size (md a0 a1).1≤a0.length:=by
 unfold aK.size md
 rw [qZ]
 cases decide (Z88.md a0 a1<0)
 ·have:=Z90.len (Z78.md a0) (Z88.md a0 a1)
  rw [Z78.len] at this
  exact this
 ·exact Nat.zero_le _
end Z91
namespace Z92
inductive Pt where
 | p0 (a:List (List L)) (b:ByteArray) (c:Int) (d:Int)
def pid:Pt→Nat
 | .p0 ..=>3
def bY:Pt→List V
 | .p0 a b c d=>[.sl none 61 a,.str b,.int .i64 c,.int .i64 d]
def bZ:Pt→List aU
 | .p0 a b c d=>[]
def step (J:Pt→aG):Pt→aG
 | .p0 a b c d=>(cond (decide (d<(a.length:Int))) (m2 d (a.length:Int) (call (Z72.R ((aS.at a (toNat d)).aW,b)) fun v1=>(cond (decide (v1<0)) (J (.p0 a b (i64.wrap (c+1)) (i64.wrap (d+1)))) (J (.p0 a b c (i64.wrap (d+1))))))) (ret (c:Int)))
def start (J:Pt→aG)(x0:List (List L))(x1:ByteArray):aG:=J (.p0 x0 x1 0 0)
def live:Nat→Live:=fun i=>match i with | 3=>[(0,none),(1,none),(5,none),(6,none)] | _=>[]
def md (a0:List ah)(a1:ByteArray):Int:=(dW (S:=Int) (β:=Int) (fun (y1:ah) (s3:Int)=>(cond (decide ((Z72.md (y1.aW) a1)<0)) (.inl (i64.wrap (s3+1))) (.inl s3))) (fun (s3:Int)=>(s3:Int)) a0 0)
def gd (a0:List ah)(a1:ByteArray):Prop:=(bK (2^21) (fun y:ah=>ah.Sm (2^21) y) a0)
def R:=RR (p2 gd) (u2 md)
theorem aj {a0 a1}(h:gd a0 a1):R ((a0.map ah.row),a1)=some (md a0 a1):=aM (a:=(a0,a1)) h
def aV:=CN [pL 61,pS] oI RT.dec R
theorem bq (a0)(a1)(hg:gd a0 a1):∃n,start (iter step n) (a0.map ah.row) a1=ret (md a0 a1):=by
 unfold gd at hg
 have H0:=hg
 unfold start md
 try simp only [SS]
 have Bh2:a0.length≤maxLen:=(by
   have:=(H0).1
   try simp only [maxLen] at *
   omega)
 refine ex_eq (out:=ret) (eE (z:=ah.zero)) ?_
 refine dN (p:=Pt.p0 (a0.map ah.row) a1 0 0) fz ?_
 refine ck (pt:=fun (i1:Nat) (s3:Int)=>Pt.p0 (a0.map ah.row) a1 s3 (i1:Int)) (s:=(0:Int)) (out:=ret) (fun _ _=>True) (fun J i1 s3 h2 hih2=>?_) (fun s3 hih2=>?_) trivial
 ·simp only [step,SS]
  have bb_:=Bh2
  simp only [maxLen] at bb_
  have:=(H0).1
  refine bt.yes (by apply decide_eq_true;omega) ?_
  refine bt.yes aH ?_
  refine bt.yes (aL h2) ?_
  refine cr (Z72.aj trivial) ?_
  refine bt.bif (fun c4=>?_) (fun c4=>?_)
  ·refine bt.inl trivial ?_
   rw [aE h2 Bh2]
   all_goals exact fz
  ·refine bt.inl trivial ?_
   rw [aE h2 Bh2]
   all_goals exact fz
 ·simp only [step,SS]
  have:=(H0).1
  refine dx (by apply decide_eq_false;omega) ?_
  refine ⟨0,?_⟩
  all_goals exact fz
theorem af:cw 464 aV:=L2 24 pid bY bZ live step start mix aD bq (.cons Z72.af .nil) Tryz.func464
theorem fa (a0:List ah)(a1:ByteArray):a0.length≤2^21→0≤md a0 a1∧md a0 a1≤(a0.length:Int):=fun hl=>by
 have key:∀(xs:List ah) (s:Int),0≤s→s+xs.length≤2^22→0≤dW (S:=Int) (β:=Int) (fun (y1:ah) (s3:Int)=>(cond (decide ((Z72.md (y1.aW) a1)<0)) (.inl (i64.wrap (s3+1))) (.inl s3))) (fun (s3:Int)=>(s3:Int)) xs s∧dW (S:=Int) (β:=Int) (fun (y1:ah) (s3:Int)=>(cond (decide ((Z72.md (y1.aW) a1)<0)) (.inl (i64.wrap (s3+1))) (.inl s3))) (fun (s3:Int)=>(s3:Int)) xs s≤s+xs.length:=by
  intro xs
  induction xs with
  | nil=>intro s h0 h1;exact ⟨h0,by simp [dW]⟩
  | cons x xs ih=>
   intro s h0 h1
   simp only [List.length_cons] at h1 ⊢
   unfold dW
   cases decide (Z72.md x.aW a1<0)
   ·have:=ih s h0 (by omega)
    simp only [bk]
    omega
   ·have:=ih (s+1) (by omega) (by omega)
    simp only [bf]
    rw [wi _ (by omega)]
    omega
 have:=key a0 0 (Int.le_refl _) (by omega)
 unfold md
 omega
end Z92
namespace Z93
def F (x0:List (List L))(x1:ByteArray):aG:=(call (Z73.R x0) fun v1=>(cond (!v1) (ret (((⟨0,(⟨(⟨#[]⟩:ByteArray),0,0,[]⟩:aS),(⟨(⟨#[]⟩:ByteArray),0,0,[]⟩:aS),(⟨0,[]⟩:bN),(⟨0,[]⟩:bN)⟩:dL),false):dL×Bool)) (call (Z42.R x1) fun v2=>(cond (!v2) (ret (((⟨0,(⟨(⟨#[]⟩:ByteArray),0,0,[]⟩:aS),(⟨(⟨#[]⟩:ByteArray),0,0,[]⟩:aS),(⟨0,[]⟩:bN),(⟨0,[]⟩:bN)⟩:dL),false):dL×Bool)) (call (Z88.R (x0,x1)) fun v3=>(cond (decide (v3≥0)) (ret (((⟨0,(⟨(⟨#[]⟩:ByteArray),0,0,[]⟩:aS),(⟨(⟨#[]⟩:ByteArray),0,0,[]⟩:aS),(⟨0,[]⟩:bN),(⟨0,[]⟩:bN)⟩:dL),false):dL×Bool)) (call (Z92.R (x0,x1)) fun v4=>(cond (decide (v4>0)) (bX (decide ((0:Int)≤(i64.wrap (v4 - 1)))) (bX (decide ((i64.wrap (v4 - 1))<(x0.length:Int))) (call (Z89.R (aS.at x0 (toNat (i64.wrap (v4 - 1))))) fun v5=>(bX (decide ((0:Int)≤(i64.wrap (v4 - 1)))) (bX (decide ((i64.wrap (v4 - 1))<(x0.length:Int))) (call (Z91.R (x0,(aS.at x0 (toNat (i64.wrap (v4 - 1)))).aW)) fun v6=>(cond (decide (v4<(x0.length:Int))) (m2 v4 (x0.length:Int) (call (Z89.R (aS.at x0 (toNat v4))) fun v7=>(m2 v4 (x0.length:Int) (call (Z91.R (x0,(aS.at x0 (toNat v4)).aW)) fun v8=>ret (((⟨v4,v5,v7,v6.1,v8.1⟩:dL),true):dL×Bool))))) (ret (((⟨v4,v5,(⟨(⟨#[]⟩:ByteArray),0,0,[]⟩:aS),v6.1,(⟨0,[]⟩:bN)⟩:dL),true):dL×Bool))))))))) (cond (decide (v4<(x0.length:Int))) (m2 v4 (x0.length:Int) (call (Z89.R (aS.at x0 (toNat v4))) fun v9=>(m2 v4 (x0.length:Int) (call (Z91.R (x0,(aS.at x0 (toNat v4)).aW)) fun v10=>ret (((⟨v4,(⟨(⟨#[]⟩:ByteArray),0,0,[]⟩:aS),v9,(⟨0,[]⟩:bN),v10.1⟩:dL),true):dL×Bool))))) (ret (((⟨v4,(⟨(⟨#[]⟩:ByteArray),0,0,[]⟩:aS),(⟨(⟨#[]⟩:ByteArray),0,0,[]⟩:aS),(⟨0,[]⟩:bN),(⟨0,[]⟩:bN)⟩:dL),true):dL×Bool)))))))))))
def md (a0:List ah)(a1:ByteArray):bP×Bool:=(cond (!(Z73.md a0)) ((⟨0,(⟨((⟨#[]⟩:ByteArray):ByteArray),0,0,[]⟩:ah),(⟨((⟨#[]⟩:ByteArray):ByteArray),0,0,[]⟩:ah),(⟨0,[]⟩:aK),(⟨0,[]⟩:aK)⟩:bP),false) (cond (!(Z42.md a1)) ((⟨0,(⟨((⟨#[]⟩:ByteArray):ByteArray),0,0,[]⟩:ah),(⟨((⟨#[]⟩:ByteArray):ByteArray),0,0,[]⟩:ah),(⟨0,[]⟩:aK),(⟨0,[]⟩:aK)⟩:bP),false) (cond (decide ((Z88.md a0 a1)≥0)) ((⟨0,(⟨((⟨#[]⟩:ByteArray):ByteArray),0,0,[]⟩:ah),(⟨((⟨#[]⟩:ByteArray):ByteArray),0,0,[]⟩:ah),(⟨0,[]⟩:aK),(⟨0,[]⟩:aK)⟩:bP),false) (cond (decide ((Z92.md a0 a1)>0)) (cond (decide ((Z92.md a0 a1)<(a0.length:Int))) ((⟨(Z92.md a0 a1),(a0.getD (toNat (i64.wrap ((Z92.md a0 a1) - 1))) ah.zero),(a0.getD (toNat (Z92.md a0 a1)) ah.zero),(Z91.md a0 ((a0.getD (toNat (i64.wrap ((Z92.md a0 a1) - 1))) ah.zero).aW)).1,(Z91.md a0 ((a0.getD (toNat (Z92.md a0 a1)) ah.zero).aW)).1⟩:bP),true) ((⟨(Z92.md a0 a1),(a0.getD (toNat (i64.wrap ((Z92.md a0 a1) - 1))) ah.zero),(⟨((⟨#[]⟩:ByteArray):ByteArray),0,0,[]⟩:ah),(Z91.md a0 ((a0.getD (toNat (i64.wrap ((Z92.md a0 a1) - 1))) ah.zero).aW)).1,(⟨0,[]⟩:aK)⟩:bP),true)) (cond (decide ((Z92.md a0 a1)<(a0.length:Int))) ((⟨(Z92.md a0 a1),(⟨((⟨#[]⟩:ByteArray):ByteArray),0,0,[]⟩:ah),(a0.getD (toNat (Z92.md a0 a1)) ah.zero),(⟨0,[]⟩:aK),(Z91.md a0 ((a0.getD (toNat (Z92.md a0 a1)) ah.zero).aW)).1⟩:bP),true) ((⟨(Z92.md a0 a1),(⟨((⟨#[]⟩:ByteArray):ByteArray),0,0,[]⟩:ah),(⟨((⟨#[]⟩:ByteArray):ByteArray),0,0,[]⟩:ah),(⟨0,[]⟩:aK),(⟨0,[]⟩:aK)⟩:bP),true))))))
def gd (a0:List ah)(a1:ByteArray):Prop:=(bK (2^21) (fun y:ah=>ah.Sm (2^21) y) a0)∧(a1.size≤(2^21))
def R:=RR (p2 gd) (u2 md)
theorem aj {a0 a1}(h:gd a0 a1):R ((a0.map ah.row),a1)=some ((bP.r (md a0 a1).1),(md a0 a1).2):=aM (a:=(a0,a1)) h
def aV:=CN [pL 61,pS] (.iT [(true,f130),(false,[fB])]) RT.dec R
theorem bq (a0)(a1)(hg:gd a0 a1):F (a0.map ah.row) a1=ret ((bP.r (md a0 a1).1),(md a0 a1).2):=by
 obtain ⟨H0,H1⟩:=hg
 unfold F md
 try simp only [SS]
 refine ct (Z73.aj H0) ?_
 refine av (fun b:bP×Bool=>ret (((bP.r b.1),b.2):dL×Bool)) (fun c1=>?_) (fun c1=>?_)
 ·all_goals exact fz
 ·have dc1:=c1
  try simp only [DC] at dc1
  refine ct (Z42.aj (Nat.le_trans H1 (by decide))) ?_
  refine av (fun b:bP×Bool=>ret (((bP.r b.1),b.2):dL×Bool)) (fun c2=>?_) (fun c2=>?_)
  ·all_goals exact fz
  ·have dc2:=c2
   try simp only [DC] at dc2
   try have tc2:=Z42.tr (by simpa using c2)
   refine ct (Z88.aj H0) ?_
   have fv3_:=Z88.fa a0 a1
   refine av (fun b:bP×Bool=>ret (((bP.r b.1),b.2):dL×Bool)) (fun c3=>?_) (fun c3=>?_)
   ·all_goals exact fz
   ·have dc3:=c3
    try simp only [DC] at dc3
    refine ct (Z92.aj H0) ?_
    have fv4_:=Z92.fa a0 a1
    refine av (fun b:bP×Bool=>ret (((bP.r b.1),b.2):dL×Bool)) (fun c4=>?_) (fun c4=>?_)
    ·have dc4:=c4
     try simp only [DC] at dc4
     refine ak (have:=(H0).1;dt) ?_
     refine ak (have:=(H0).1;have:=(H0).1;dt) ?_
     refine ct (Z89.aj (bK.getD (z:=ah.zero) H0 (by have:=(H0).1;first | assumption | omega | (simp (disch:=omega) only [wi];omega) | (simp;omega)))) ?_
     try simp only [SS]
     refine ak (have:=(H0).1;dt) ?_
     refine ak (have:=(H0).1;have:=(H0).1;dt) ?_
     refine ct (Z91.aj H0) ?_
     try simp only [SS]
     refine av (fun b:bP×Bool=>ret (((bP.r b.1),b.2):dL×Bool)) (fun c5=>?_) (fun c5=>?_)
     ·have dc5:=c5
      try simp only [DC] at dc5
      refine ak (have:=(H0).1;dt) ?_
      refine ak (have:=(H0).1;have:=(H0).1;dt) ?_
      refine ct (Z89.aj (bK.getD (z:=ah.zero) H0 (by have:=(H0).1;first | assumption | omega | (simp (disch:=omega) only [wi];omega) | (simp;omega)))) ?_
      try simp only [SS]
      refine ak (have:=(H0).1;dt) ?_
      refine ak (have:=(H0).1;have:=(H0).1;dt) ?_
      refine ct (Z91.aj H0) ?_
      try simp only [SS]
      all_goals exact fz
     ·all_goals exact fz
    ·have dc4:=c4
     try simp only [DC] at dc4
     refine av (fun b:bP×Bool=>ret (((bP.r b.1),b.2):dL×Bool)) (fun c6=>?_) (fun c6=>?_)
     ·have dc6:=c6
      try simp only [DC] at dc6
      refine ak (have:=(H0).1;dt) ?_
      refine ak (have:=(H0).1;have:=(H0).1;dt) ?_
      refine ct (Z89.aj (bK.getD (z:=ah.zero) H0 (by have:=(H0).1;first | assumption | omega | (simp (disch:=omega) only [wi];omega) | (simp;omega)))) ?_
      try simp only [SS]
      refine ak (have:=(H0).1;dt) ?_
      refine ak (have:=(H0).1;have:=(H0).1;dt) ?_
      refine ct (Z91.aj H0) ?_
      try simp only [SS]
      all_goals exact fz
     ·all_goals exact fz
theorem af:cw 379 aV:=W2 71 F mix aD bq (.cons Z73.af (.cons Z42.af (.cons Z88.af (.cons Z92.af (.cons Z89.af (.cons Z91.af .nil)))))) Tryz.func379
theorem gh {a0:List ah}{a1:ByteArray}(hg:gd a0 a1):bP.Sm (2^21) ((md a0 a1).1):=by
 unfold gd at hg;unfold md
 have ez:ah.Sm (2^21) ⟨⟨#[]⟩,0,0,[]⟩:=⟨Nat.zero_le _,bK.nil⟩
 have pz:aK.Sm (2^21) ⟨0,[]⟩:=bK.nil
 have he:∀i,ah.Sm (2^21) (a0.getD i ah.zero):=fun i=>bK.vO hg.1 ez
 have hp:∀x,aK.Sm (2^21) (Z91.md a0 x).1:=fun x=>Z91.gh hg.1
 simp only [Bool.cond_eq_ite]
 repeat' split
 all_goals (refine ⟨?_,?_,?_,?_⟩<;>first | exact he _ | exact hp _ | exact ez | exact pz)
theorem sz (a0:List ah)(a1:ByteArray):bP.size (md a0 a1).1≤4*dQ (fun y:ah=>ah.size y) a0:=by
 have hl:a0.length≤dQ (fun y:ah=>ah.size y) a0:=Nat.le_add_right _ _
 have he:∀i,ah.size (a0.getD i ah.zero)≤dQ (fun y:ah=>ah.size y) a0:=fun i=>nM (f:=fun y:ah=>ah.size y) (z:=ah.zero) rfl
 have hp:∀x,aK.size (Z91.md a0 x).1≤a0.length:=fun x=>Z91.sz a0 x
 have hd:∀(n:Int) (b a:ah) (l r:aK),bP.size ⟨n,b,a,l,r⟩=ah.size b+ah.size a+aK.size l+aK.size r:=fun _ _ _ _ _=>rfl
 have e0:ah.size ⟨⟨#[]⟩,0,0,[]⟩=0:=rfl
 have p0:aK.size ⟨0,[]⟩=0:=rfl
 have h1:=he (toNat (i64.wrap ((Z92.md a0 a1) - 1)))
 have h2:=he (toNat (Z92.md a0 a1))
 have h3:=hp ((a0.getD (toNat (i64.wrap ((Z92.md a0 a1) - 1))) ah.zero).aW)
 have h4:=hp ((a0.getD (toNat (Z92.md a0 a1)) ah.zero).aW)
 unfold md
 simp only [Bool.cond_eq_ite]
 repeat' split
 all_goals simp only [hd,e0,p0]
 all_goals omega
end Z93
namespace Z94
def F (x0:dH)(x1:ByteArray):aG:=(call (Z85.R x0) fun v1=>(cond (!v1) (ret ((⟨[],false,(⟨(⟨#[]⟩:ByteArray),0,0,[]⟩:aS),(⟨0,[]⟩:bN),(⟨0,(⟨(⟨#[]⟩:ByteArray),0,0,[]⟩:aS),(⟨(⟨#[]⟩:ByteArray),0,0,[]⟩:aS),(⟨0,[]⟩:bN),(⟨0,[]⟩:bN)⟩:dL)⟩:aX):aX)) (call (Z42.R x1) fun v2=>(cond (!v2) (ret ((⟨[],false,(⟨(⟨#[]⟩:ByteArray),0,0,[]⟩:aS),(⟨0,[]⟩:bN),(⟨0,(⟨(⟨#[]⟩:ByteArray),0,0,[]⟩:aS),(⟨(⟨#[]⟩:ByteArray),0,0,[]⟩:aS),(⟨0,[]⟩:bN),(⟨0,[]⟩:bN)⟩:dL)⟩:aX):aX)) (call (Z38.R x0.aQ) fun v3=>(call (Z88.R (x0.bH,x1)) fun v4=>(cond (decide (v4≥0)) (m2 v4 (x0.bH.length:Int) (call (Z89.R (aS.at x0.bH (toNat v4))) fun v5=>(call (Z91.R (x0.bH,x1)) fun v6=>ret ((⟨v3,true,v5,v6.1,(⟨0,(⟨(⟨#[]⟩:ByteArray),0,0,[]⟩:aS),(⟨(⟨#[]⟩:ByteArray),0,0,[]⟩:aS),(⟨0,[]⟩:bN),(⟨0,[]⟩:bN)⟩:dL)⟩:aX):aX)))) (call (Z93.R (x0.bH,x1)) fun v7=>ret ((⟨v3,false,(⟨(⟨#[]⟩:ByteArray),0,0,[]⟩:aS),(⟨0,[]⟩:bN),v7.1⟩:aX):aX)))))))))
def md (a0:aI)(a1:ByteArray):ay:=(cond (!(Z85.md a0)) (⟨[],false,(⟨((⟨#[]⟩:ByteArray):ByteArray),0,0,[]⟩:ah),(⟨0,[]⟩:aK),(⟨0,(⟨((⟨#[]⟩:ByteArray):ByteArray),0,0,[]⟩:ah),(⟨((⟨#[]⟩:ByteArray):ByteArray),0,0,[]⟩:ah),(⟨0,[]⟩:aK),(⟨0,[]⟩:aK)⟩:bP)⟩:ay) (cond (!(Z42.md a1)) (⟨[],false,(⟨((⟨#[]⟩:ByteArray):ByteArray),0,0,[]⟩:ah),(⟨0,[]⟩:aK),(⟨0,(⟨((⟨#[]⟩:ByteArray):ByteArray),0,0,[]⟩:ah),(⟨((⟨#[]⟩:ByteArray):ByteArray),0,0,[]⟩:ah),(⟨0,[]⟩:aK),(⟨0,[]⟩:aK)⟩:bP)⟩:ay) (cond (decide ((Z88.md a0.bH a1)≥0)) (⟨a0.aQ,true,(a0.bH.getD (toNat (Z88.md a0.bH a1)) ah.zero),(Z91.md a0.bH a1).1,(⟨0,(⟨((⟨#[]⟩:ByteArray):ByteArray),0,0,[]⟩:ah),(⟨((⟨#[]⟩:ByteArray):ByteArray),0,0,[]⟩:ah),(⟨0,[]⟩:aK),(⟨0,[]⟩:aK)⟩:bP)⟩:ay) (⟨a0.aQ,false,(⟨((⟨#[]⟩:ByteArray):ByteArray),0,0,[]⟩:ah),(⟨0,[]⟩:aK),(Z93.md a0.bH a1).1⟩:ay))))
def gd (a0:aI)(a1:ByteArray):Prop:=(aI.Sm (2^21) a0)∧(a1.size≤(2^21))
def R:=RR (p2 gd) (u2 md)
theorem aj {a0 a1}(h:gd a0 a1):R ((aI.r a0),a1)=some (ay.r (md a0 a1)):=aM (a:=(a0,a1)) h
def aV:=CN [.agg sH,pS] (.agg f132) RT.dec R
theorem bq (a0)(a1)(hg:gd a0 a1):F (aI.r a0) a1=ret (ay.r (md a0 a1)):=by
 obtain ⟨H0,H1⟩:=hg
 unfold F md
 try simp only [SS]
 refine ct (Z85.aj H0) ?_
 refine av (fun b:ay=>ret ((ay.r b):aX)) (fun c1=>?_) (fun c1=>?_)
 ·all_goals exact fz
 ·have dc1:=c1
  try simp only [DC] at dc1
  refine ct (Z42.aj (Nat.le_trans H1 (by decide))) ?_
  refine av (fun b:ay=>ret ((ay.r b):aX)) (fun c2=>?_) (fun c2=>?_)
  ·all_goals exact fz
  ·have dc2:=c2
   try simp only [DC] at dc2
   try have tc2:=Z42.tr (by simpa using c2)
   refine ct (Z38.aj H0.1) ?_
   try simp only [SS]
   refine ct (Z88.aj H0.2) ?_
   have fv4_:=Z88.fa a0.bH a1
   refine av (fun b:ay=>ret ((ay.r b):aX)) (fun c3=>?_) (fun c3=>?_)
   ·have dc3:=c3
    try simp only [DC] at dc3
    refine ak dt ?_
    refine ak (have:=(H0.2).1;dt) ?_
    refine ct (Z89.aj (bK.getD (z:=ah.zero) H0.2 (by first | assumption | omega | (simp (disch:=omega) only [wi];omega) | (simp;omega)))) ?_
    try simp only [SS]
    refine ct (Z91.aj H0.2) ?_
    try simp only [SS]
    all_goals exact fz
   ·refine ct (Z93.aj ⟨H0.2,H1⟩) ?_
    try simp only [SS]
    all_goals exact fz
theorem af:cw 260 aV:=W2 52 F mix aD bq (.cons Z85.af (.cons Z42.af (.cons Z38.af (.cons Z88.af (.cons Z89.af (.cons Z91.af (.cons Z93.af .nil))))))) Tryz.func260
theorem gh {a0:aI}{a1:ByteArray}(hg:gd a0 a1):ay.Sm (2^21) (md a0 a1):=by
 unfold gd at hg;unfold md
 obtain ⟨⟨hc,hl⟩,_⟩:=hg
 have ez:ah.Sm (2^21) ⟨⟨#[]⟩,0,0,[]⟩:=⟨Nat.zero_le _,bK.nil⟩
 have pz:aK.Sm (2^21) ⟨0,[]⟩:=bK.nil
 have gz:bP.Sm (2^21) ⟨0,⟨⟨#[]⟩,0,0,[]⟩,⟨⟨#[]⟩,0,0,[]⟩,⟨0,[]⟩,⟨0,[]⟩⟩:=⟨ez,ez,pz,pz⟩
 have he:∀i,ah.Sm (2^21) (a0.bH.getD i ah.zero):=fun i=>bK.vO hl ez
 have hp:∀x,aK.Sm (2^21) (Z91.md a0.bH x).1:=fun x=>Z91.gh hl
 have hga:bP.Sm (2^21) (Z93.md a0.bH a1).1:=Z93.gh ⟨hl,by assumption⟩
 simp only [Bool.cond_eq_ite]
 repeat' split
 all_goals (refine ⟨?_,?_,?_,?_⟩<;>first | exact hc | exact bK.nil | exact he _ | exact hp _ | exact hga | exact ez | exact pz | exact gz)
theorem sz (a0:aI)(a1:ByteArray):ay.size (md a0 a1)≤6*aI.size a0:=by
 have hz:aI.size a0=dQ (fun y:aa=>aa.size y) a0.aQ+dQ (fun y:ah=>ah.size y) a0.bH:=rfl
 have hl:a0.bH.length≤dQ (fun y:ah=>ah.size y) a0.bH:=Nat.le_add_right _ _
 have he:∀i,ah.size (a0.bH.getD i ah.zero)≤dQ (fun y:ah=>ah.size y) a0.bH:=fun i=>nM (f:=fun y:ah=>ah.size y) (z:=ah.zero) rfl
 have hp:=Z91.sz a0.bH a1
 have hg:=Z93.sz a0.bH a1
 have hd:∀(c:List aa) (f:Bool) (e:ah) (p:aK) (g:bP),ay.size ⟨c,f,e,p,g⟩=dQ (fun y:aa=>aa.size y) c+ah.size e+aK.size p+bP.size g:=fun _ _ _ _ _=>rfl
 have e0:ah.size ⟨⟨#[]⟩,0,0,[]⟩=0:=rfl
 have p0:aK.size ⟨0,[]⟩=0:=rfl
 have g0:bP.size ⟨0,⟨⟨#[]⟩,0,0,[]⟩,⟨⟨#[]⟩,0,0,[]⟩,⟨0,[]⟩,⟨0,[]⟩⟩=0:=rfl
 have c0:dQ (fun y:aa=>aa.size y) []=0:=rfl
 have h1:=he (toNat (Z88.md a0.bH a1))
 unfold md
 simp only [Bool.cond_eq_ite]
 repeat' split
 all_goals simp only [hd,e0,p0,g0,c0]
 all_goals omega
end Z94
namespace Z95
def F (x0:cI)(x1:Int)(x2:ByteArray):aG:=(call (Z87.R (x0,x1)) fun v1=>(cond (decide (v1<0)) (ret ((⟨[],false,(⟨(⟨#[]⟩:ByteArray),0,0,[]⟩:aS),(⟨0,[]⟩:bN),(⟨0,(⟨(⟨#[]⟩:ByteArray),0,0,[]⟩:aS),(⟨(⟨#[]⟩:ByteArray),0,0,[]⟩:aS),(⟨0,[]⟩:bN),(⟨0,[]⟩:bN)⟩:dL)⟩:aX):aX)) (cond (x0.gP==4) (ret ((⟨[],false,(⟨(⟨#[]⟩:ByteArray),0,0,[]⟩:aS),(⟨0,[]⟩:bN),(⟨0,(⟨(⟨#[]⟩:ByteArray),0,0,[]⟩:aS),(⟨(⟨#[]⟩:ByteArray),0,0,[]⟩:aS),(⟨0,[]⟩:bN),(⟨0,[]⟩:bN)⟩:dL)⟩:aX):aX)) (m2 v1 (x0.bE.length:Int) (call (Z94.R ((dH.at x0.bE (toNat v1)),x2)) fun v2=>(cond (x0.gP==1) (ret ((⟨v2.aQ,v2.cj,(⟨v2.aN.aW,v2.aN.bD,(i64.wrap (v2.aN.bS+1)),v2.aN.bC⟩:aS),v2.eo,v2.eT⟩:aX):aX)) (cond (x0.gP==2) (cond (decide ((v2.aQ.length:Int)>0)) (bX (decide ((0:Int)≤(i64.wrap ((v2.aQ.length:Int) - 1)))) (bX (decide ((i64.wrap ((v2.aQ.length:Int) - 1))≤(v2.aQ.length:Int))) (ret ((⟨(List.take (toNat (i64.wrap ((v2.aQ.length:Int) - 1))) v2.aQ),v2.cj,v2.aN,v2.eo,v2.eT⟩:aX):aX)))) (ret (v2:aX))) (cond (x0.gP==3) (ret ((⟨v2.aQ,false,(⟨(⟨#[]⟩:ByteArray),0,0,[]⟩:aS),(⟨0,[]⟩:bN),(⟨0,(⟨(⟨#[]⟩:ByteArray),0,0,[]⟩:aS),(⟨(⟨#[]⟩:ByteArray),0,0,[]⟩:aS),(⟨0,[]⟩:bN),(⟨0,[]⟩:bN)⟩:dL)⟩:aX):aX)) (ret (v2:aX))))))))))
def pats:List gq:=[.agg [.sl 293,.int .i64],.rd (.int .i64),.rd (.str)]
def res:RP:=.agg [.fr 123,.rd (.bool),.rd (.str),.rd (.int .i64),.rd (.int .i64),.fr 9,.rd (.int .i64),.fr 3,.rd (.int .i64),.rd (.str),.rd (.int .i64),.rd (.int .i64),.fr 9,.rd (.str),.rd (.int .i64),.rd (.int .i64),.fr 9,.rd (.int .i64),.fr 3,.rd (.int .i64),.fr 3]
def md (a0:az)(a1:Int)(a2:ByteArray):ay:=(cond (decide ((Z87.md a0 a1)<0)) (⟨[],false,(⟨((⟨#[]⟩:ByteArray):ByteArray),0,0,[]⟩:ah),(⟨0,[]⟩:aK),(⟨0,(⟨((⟨#[]⟩:ByteArray):ByteArray),0,0,[]⟩:ah),(⟨((⟨#[]⟩:ByteArray):ByteArray),0,0,[]⟩:ah),(⟨0,[]⟩:aK),(⟨0,[]⟩:aK)⟩:bP)⟩:ay) (cond (a0.gP==4) (⟨[],false,(⟨((⟨#[]⟩:ByteArray):ByteArray),0,0,[]⟩:ah),(⟨0,[]⟩:aK),(⟨0,(⟨((⟨#[]⟩:ByteArray):ByteArray),0,0,[]⟩:ah),(⟨((⟨#[]⟩:ByteArray):ByteArray),0,0,[]⟩:ah),(⟨0,[]⟩:aK),(⟨0,[]⟩:aK)⟩:bP)⟩:ay) (cond (a0.gP==1) (⟨(Z94.md (a0.bE.getD (toNat (Z87.md a0 a1)) aI.zero) a2).aQ,(Z94.md (a0.bE.getD (toNat (Z87.md a0 a1)) aI.zero) a2).cj,(⟨(Z94.md (a0.bE.getD (toNat (Z87.md a0 a1)) aI.zero) a2).aN.aW,(Z94.md (a0.bE.getD (toNat (Z87.md a0 a1)) aI.zero) a2).aN.bD,(i64.wrap ((Z94.md (a0.bE.getD (toNat (Z87.md a0 a1)) aI.zero) a2).aN.bS+1)),(Z94.md (a0.bE.getD (toNat (Z87.md a0 a1)) aI.zero) a2).aN.bC⟩:ah),(Z94.md (a0.bE.getD (toNat (Z87.md a0 a1)) aI.zero) a2).eo,(Z94.md (a0.bE.getD (toNat (Z87.md a0 a1)) aI.zero) a2).eT⟩:ay) (cond (a0.gP==2) (cond (decide (((Z94.md (a0.bE.getD (toNat (Z87.md a0 a1)) aI.zero) a2).aQ.length:Int)>0)) (⟨(List.take (toNat (i64.wrap (((Z94.md (a0.bE.getD (toNat (Z87.md a0 a1)) aI.zero) a2).aQ.length:Int) - 1))) (Z94.md (a0.bE.getD (toNat (Z87.md a0 a1)) aI.zero) a2).aQ),(Z94.md (a0.bE.getD (toNat (Z87.md a0 a1)) aI.zero) a2).cj,(Z94.md (a0.bE.getD (toNat (Z87.md a0 a1)) aI.zero) a2).aN,(Z94.md (a0.bE.getD (toNat (Z87.md a0 a1)) aI.zero) a2).eo,(Z94.md (a0.bE.getD (toNat (Z87.md a0 a1)) aI.zero) a2).eT⟩:ay) (Z94.md (a0.bE.getD (toNat (Z87.md a0 a1)) aI.zero) a2)) (cond (a0.gP==3) (⟨(Z94.md (a0.bE.getD (toNat (Z87.md a0 a1)) aI.zero) a2).aQ,false,(⟨((⟨#[]⟩:ByteArray):ByteArray),0,0,[]⟩:ah),(⟨0,[]⟩:aK),(⟨0,(⟨((⟨#[]⟩:ByteArray):ByteArray),0,0,[]⟩:ah),(⟨((⟨#[]⟩:ByteArray):ByteArray),0,0,[]⟩:ah),(⟨0,[]⟩:aK),(⟨0,[]⟩:aK)⟩:bP)⟩:ay) (Z94.md (a0.bE.getD (toNat (Z87.md a0 a1)) aI.zero) a2))))))
def gd (a0:az)(a1:Int)(a2:ByteArray):Prop:=(az.Sm (2^21) a0)∧(a2.size≤(2^21))
def acc (ls:List L):cI×Int×ByteArray:=((cI.dec ls),((aA 2 ls).headD .hole).toInt,((aA 3 ls).headD .hole).toStr)
def R:(cI×Int×ByteArray)→Option aX:=RR (p3 gd) (u3 md)
theorem aj {a0 a1 a2}(h:gd a0 a1 a2):R ((az.r a0),a1,a2)=some (ay.r (md a0 a1 a2)):=aM (a:=(a0,a1,a2)) h
def aV:fW:=CN pats res acc R
theorem bq (a0:az)(a1:Int)(a2:ByteArray)(hg:gd a0 a1 a2):F (az.r a0) a1 a2=ret ((ay.r (md a0 a1 a2)):aX):=by
 obtain ⟨H0,H2⟩:=hg
 unfold F md
 try simp only [SS]
 refine ct (Z87.aj H0) ?_
 have fv1_:=Z87.fa a0 a1
 refine av (fun b:ay=>ret ((ay.r b):aX)) (fun c1=>?_) (fun c1=>?_)
 ·all_goals exact fz
 ·have dc1:=c1
  try simp only [DC] at dc1
  refine av (fun b:ay=>ret ((ay.r b):aX)) (fun c2=>?_) (fun c2=>?_)
  ·all_goals exact fz
  ·have dc2:=c2
   try simp only [DC] at dc2
   refine ak (have:=(H0).1;dt) ?_
   refine ak (have:=(H0).1;have:=(H0).1;dt) ?_
   refine ct (Z94.aj ⟨(bK.getD (z:=aI.zero) H0 (by have:=(H0).1;first | assumption | omega | (simp (disch:=omega) only [wi];omega) | (simp;omega))),H2⟩) ?_
   try simp only [SS]
   refine av (fun b:ay=>ret ((ay.r b):aX)) (fun c3=>?_) (fun c3=>?_)
   ·all_goals exact fz
   ·have dc3:=c3
    try simp only [DC] at dc3
    refine av (fun b:ay=>ret ((ay.r b):aX)) (fun c4=>?_) (fun c4=>?_)
    ·have dc4:=c4
     try simp only [DC] at dc4
     refine av (fun b:ay=>ret ((ay.r b):aX)) (fun c5=>?_) (fun c5=>?_)
     ·have dc5:=c5
      try simp only [DC] at dc5
      refine ak (have:=((Z94.gh (a0:=a0.bE.getD (toNat (Z87.md a0 a1)) aI.zero) (a1:=a2) ⟨(bK.getD (z:=aI.zero) H0 (by have:=(H0).1;first | assumption | omega | (simp (disch:=omega) only [wi];omega) | (simp;omega))),H2⟩).1).1;have:=(H0).1;dt) ?_
      refine ak (have:=((Z94.gh (a0:=a0.bE.getD (toNat (Z87.md a0 a1)) aI.zero) (a1:=a2) ⟨(bK.getD (z:=aI.zero) H0 (by have:=(H0).1;first | assumption | omega | (simp (disch:=omega) only [wi];omega) | (simp;omega))),H2⟩).1).1;have:=(H0).1;dt) ?_
      all_goals exact fz
     ·all_goals exact fz
    ·refine av (fun b:ay=>ret ((ay.r b):aX)) (fun c6=>?_) (fun c6=>?_)
     ·all_goals exact fz
     ·all_goals exact fz
theorem af:cw 343 aV:=VT (live:=fun _=>[]) (nt:=57) (run:=fun _ x=>F x.1 x.2.1 x.2.2) mix aD (.cons Z87.af (.cons Z94.af .nil)) .nil Tryz.func343 (by kernel_rfl) (fun _ _=>by kernel_rfl) (fun _ a _ _ hg=>⟨0,bq a.1 a.2.1 a.2.2 hg⟩)
theorem gh {a0:az}{a1:Int}{a2:ByteArray}(hg:gd a0 a1 a2):ay.Sm (2^21) (md a0 a1 a2):=by
 unfold gd at hg;unfold md
 obtain ⟨hs,hl⟩:=hg
 have ez:ah.Sm (2^21) ⟨⟨#[]⟩,0,0,[]⟩:=⟨Nat.zero_le _,bK.nil⟩
 have pz:aK.Sm (2^21) ⟨0,[]⟩:=bK.nil
 have gz:bP.Sm (2^21) ⟨0,⟨⟨#[]⟩,0,0,[]⟩,⟨⟨#[]⟩,0,0,[]⟩,⟨0,[]⟩,⟨0,[]⟩⟩:=⟨ez,ez,pz,pz⟩
 have zz:aI.Sm (2^21) aI.zero:=⟨bK.nil,bK.nil⟩
 have ha:∀i,ay.Sm (2^21) (Z94.md (a0.bE.getD i aI.zero) a2):=fun i=>Z94.gh ⟨bK.vO hs zz,hl⟩
 have ht:∀i n,bK (2^21) (fun y:aa=>aa.Sm (2^21) y) (List.take n (List.drop 0 (Z94.md (a0.bE.getD i aI.zero) a2).aQ)):=fun i n=>⟨Nat.le_trans (by simp;omega) (ha i).1.1,fun x hx=>(ha i).1.2 x (List.mem_of_mem_take hx)⟩
 have ht2:∀i n,bK (2^21) (fun y:aa=>aa.Sm (2^21) y) (List.take n (Z94.md (a0.bE.getD i aI.zero) a2).aQ):=fun i n=>⟨Nat.le_trans (by simp;omega) (ha i).1.1,fun x hx=>(ha i).1.2 x (List.mem_of_mem_take hx)⟩
 simp only [Bool.cond_eq_ite]
 repeat' split
 all_goals first | exact ha _ | (refine ⟨?_,?_,?_,?_⟩<;>first | exact ht _ _ | exact ht2 _ _ | exact bK.nil | exact (ha _).1 | exact (ha _).2.1 | exact (ha _).2.2.1 | exact (ha _).2.2.2 | exact ez | exact pz | exact gz)
theorem vJ {α:Type}(f:α→Nat):∀(n:Nat) (xs:List α),dQ f (xs.take n)≤dQ f xs
 | 0,xs=>by simp [dQ]
 | n+1,[]=>by simp [dQ]
 | n+1,x::xs=>by
  have:=vJ f n xs
  unfold dQ at this ⊢
  simp only [List.take_succ_cons,List.length_cons,List.map_cons,List.sum_cons]
  omega
theorem sz (a0:az)(a1:Int)(a2:ByteArray):ay.size (md a0 a1 a2)≤6*az.size a0:=by
 have hz:aI.size (a0.bE.getD (toNat (Z87.md a0 a1)) aI.zero)≤az.size a0:=nM (f:=fun y:aI=>aI.size y) (xs:=a0.bE) (z:=aI.zero) rfl
 have hA:=Z94.sz (a0.bE.getD (toNat (Z87.md a0 a1)) aI.zero) a2
 have hd:∀(c:List aa) (f:Bool) (e:ah) (p:aK) (g:bP),ay.size ⟨c,f,e,p,g⟩=dQ (fun y:aa=>aa.size y) c+ah.size e+aK.size p+bP.size g:=fun _ _ _ _ _=>rfl
 have he:∀(l:ByteArray) (k v:Int) (p:List ByteArray),ah.size ⟨l,k,v,p⟩=l.size+dQ (fun y:ByteArray=>y.size) p:=fun _ _ _ _=>rfl
 unfold md
 revert hA
 generalize Z94.md (a0.bE.getD (toNat (Z87.md a0 a1)) aI.zero) a2=A
 intro hA
 have hA2:ay.size A=dQ (fun y:aa=>aa.size y) A.aQ+ah.size A.aN+aK.size A.eo+bP.size A.eT:=rfl
 have hE2:ah.size A.aN=A.aN.aW.size+dQ (fun y:ByteArray=>y.size) A.aN.bC:=rfl
 have ht:=fun n=>vJ (fun y:aa=>aa.size y) n A.aQ
 have e0:ah.size ⟨⟨#[]⟩,0,0,[]⟩=0:=rfl
 have p0:aK.size ⟨0,[]⟩=0:=rfl
 have g0:bP.size ⟨0,⟨⟨#[]⟩,0,0,[]⟩,⟨⟨#[]⟩,0,0,[]⟩,⟨0,[]⟩,⟨0,[]⟩⟩=0:=rfl
 have c0:dQ (fun y:aa=>aa.size y) []=0:=rfl
 have ht1:=ht (toNat (i64.wrap ((A.aQ.length:Int) - 1)))
 simp only [Bool.cond_eq_ite]
 repeat' split
 all_goals first
  | omega
  | (simp only [hd,e0,p0,g0,c0];omega)
  | (simp only [hd,he];omega)
end Z95
namespace Z96
inductive Pt where
 | p0 (a:List (List L)) (b:Int) (c:ByteArray) (d:Int) (e:List (List L))
def pid:Pt→Nat
 | .p0 ..=>3
def bY:Pt→List V
 | .p0 a b c d e=>[.sl none 227 a,.int .i64 b,.str c,.own 0,.int .i64 d]
def bZ:Pt→List aU
 | .p0 a b c d e=>[.row 132 e]
def step (J:Pt→aG):Pt→aG
 | .p0 a b c d e=>(cond (decide (d<(a.length:Int))) (cond (decide (d<4)) (m2 d (a.length:Int) (call (Z95.R ((cI.at a (toNat d)),b,c)) fun v1=>(bX (eU (((e.length:Int)+1)*304)) (J (.p0 a b c (i64.wrap (d+1)) (e++[(aX.enc v1)])))))) (ret (e:List (List L)))) (ret (e:List (List L))))
def start (J:Pt→aG)(x0:List (List L))(x1:Int)(x2:ByteArray):aG:=J (.p0 x0 x1 x2 0 [])
def live:Nat→Live:=fun i=>match i with | 3=>[(0,none),(1,none),(2,none),(7,some 132),(8,none)] | _=>[]
def md (a0:List az)(a1:Int)(a2:ByteArray):List ay:=(dS (S:=List ay) (β:=List ay) (fun (i1:Nat) (y1:az) (s3:List ay)=>(cond (decide ((i1:Int)<4)) (.inl (s3++[(Z95.md y1 a1 a2)])) (.inr s3))) (fun (s3:List ay)=>s3) 0 a0 [])
def gd (a0:List az)(a1:Int)(a2:ByteArray):Prop:=(bK (2^21) (fun y:az=>az.Sm (2^21) y) a0)∧(a2.size≤(2^21))
def R:=RR (p3 gd) (u3 md)
theorem aj {a0 a1 a2}(h:gd a0 a1 a2):R ((a0.map az.row),a1,a2)=some ((md a0 a1 a2).map ay.row):=aM (a:=(a0,a1,a2)) h
def aV:=CN [pL 227,pI,pS] (oL 132) RT.dec R
theorem bq (a0)(a1)(a2)(hg:gd a0 a1 a2):∃n,start (iter step n) (a0.map az.row) a1 a2=ret ((md a0 a1 a2).map ay.row):=by
 obtain ⟨H0,H2⟩:=hg
 unfold start md
 try simp only [SS]
 have Bh2:a0.length≤maxLen:=(by
   have:=(H0).1
   try simp only [maxLen] at *
   omega)
 refine ex_eq (out:=(fun b:List ay=>ret ((b.map ay.row):List (List L)))) (cX (z:=az.zero)) ?_
 refine dN (p:=Pt.p0 (a0.map az.row) a1 a2 0 ([].map ay.row)) fz ?_
 refine ck (pt:=fun (i1:Nat) (s3:List ay)=>Pt.p0 (a0.map az.row) a1 a2 (i1:Int) (s3.map ay.row)) (s:=([]:List ay)) (out:=(fun b:List ay=>ret ((b.map ay.row):List (List L)))) (fun (i1:Nat) (s3:List ay)=>s3.length≤([]:List Int).length+1*i1) (fun J i1 s3 h2 hih2=>?_) (fun s3 hih2=>?_) (by simp)
 ·simp only [step,SS]
  have gr_:=hih2
  try simp only [LN] at gr_
  have bb_:=Bh2
  simp only [maxLen] at bb_
  have:=(H0).1
  refine bt.yes (by apply decide_eq_true;omega) ?_
  refine bt.bif (fun c4=>?_) (fun c4=>?_)
  ·have dc4:=c4
   try simp only [DC] at dc4
   refine bt.yes aH ?_
   refine bt.yes (aL h2) ?_
   refine cr (Z95.aj ⟨(bK.getD (z:=az.zero) H0 h2),H2⟩) ?_
   try simp only [SS]
   refine bt.yes lm ?_
   refine bt.inl (by
     have g_:=hih2
     try simp only [LN] at g_ ⊢
     first | omega | (simp;done) | (simp;omega)) ?_
   rw [aE h2 Bh2]
   all_goals exact fz
  ·refine bt.inr ?_
   all_goals exact fz
 ·simp only [step,SS]
  have gr_:=hih2
  try simp only [LN] at gr_
  have:=(H0).1
  refine dx (by apply decide_eq_false;omega) ?_
  refine ⟨0,?_⟩
  all_goals exact fz
theorem af:cw 210 aV:=L3 31 pid bY bZ live step start mix aD bq (.cons Z95.af .nil) Tryz.func210
theorem qa (a0:List az)(a1:Int)(a2:ByteArray):md a0 a1 a2=(a0.take 4).map (fun y=>Z95.md y a1 a2):=by
 have key:∀(xs:List az) (i:Nat) (s:List ay),i≤4→dS (S:=List ay) (β:=List ay) (fun (i1:Nat) (y1:az) (s3:List ay)=>(cond (decide ((i1:Int)<4)) (.inl (s3++[(Z95.md y1 a1 a2)])) (.inr s3))) (fun (s3:List ay)=>s3) i xs s=s++(xs.take (4 - i)).map (fun y=>Z95.md y a1 a2):=by
  intro xs
  induction xs with
  | nil=>intro i s _;simp [dS]
  | cons x xs ih=>
   intro i s hi
   unfold dS
   by_cases h:i<4
   ·rw [decide_eq_true (by omega)]
    simp only [bf]
    rw [ih (i+1) _ (by omega),show 4 - i=(4 - (i+1))+1 by omega]
    simp
   ·rw [decide_eq_false (by omega),show 4 - i=0 by omega]
    simp
 exact (key a0 0 [] (by omega)).trans (by simp)
theorem gh {a0:List az}{a1:Int}{a2:ByteArray}(hg:gd a0 a1 a2):bK (2^21) (fun y:ay=>ay.Sm (2^21) y) (md a0 a1 a2):=by
 unfold gd at hg
 rw [qa]
 exact (bK.take hg.1).map fun x hx=>Z95.gh ⟨hx,hg.2⟩
theorem BO (a0:List az)(a1:Int)(a2:ByteArray):(md a0 a1 a2).length≤4:=by
 rw [qa,List.length_map]
 exact Nat.le_trans (List.length_take_le _ _) (Nat.le_refl _)
theorem sz (a0:List az)(a1:Int)(a2:ByteArray):dQ (fun y:ay=>ay.size y) (md a0 a1 a2)≤6*dQ (fun y:az=>az.size y) a0:=by
 rw [qa]
 have key:∀xs:List az,dQ (fun y:ay=>ay.size y) (xs.map (fun y=>Z95.md y a1 a2))≤6*dQ (fun y:az=>az.size y) xs:=by
  intro xs
  induction xs with
  | nil=>exact Nat.zero_le _
  | cons x xs ih=>
   have h:=Z95.sz x a1 a2
   unfold dQ at ih ⊢
   simp only [List.map_cons,List.length_cons,List.sum_cons,List.length_map] at ih ⊢
   omega
 exact Nat.le_trans (key _) (Nat.mul_le_mul_left _ (Z95.vJ _ _ _))
end Z96
namespace Z97
inductive Pt where
 | p0 (a:Int) (b:Int) (c:bn)
def pid:Pt→Nat
 | .p0 ..=>2
def bY:Pt→List V
 | .p0 a b c=>[.int .i64 a,.dc 0 0,.int .i64 b]
def bZ:Pt→List aU
 | .p0 a b c=>[.box [.sl none 92 c.aF,.sl none 280 c.bg]]
def step (J:Pt→aG):Pt→aG
 | .p0 a b c=>(cond (decide (b<(c.aF.length:Int))) (m2 b (c.aF.length:Int) (cond (decide (((oO c.aF (toNat b)).length:Int)>0)) (m2 b (c.aF.length:Int) (bX (decide ((0:Int)<((oO c.aF (toNat b)).length:Int))) (cond ((aO.at (oO c.aF (toNat b)) 0).aq.bA==a) (ret (b:Int)) (J (.p0 a (i64.wrap (b+1)) c))))) (J (.p0 a (i64.wrap (b+1)) c)))) (ret ((-1):Int)))
def start (J:Pt→aG)(x0:bn)(x1:Int):aG:=J (.p0 x1 0 x0)
def live:Nat→Live:=fun i=>match i with | 2=>[(1,none),(2,none),(5,none)] | _=>[]
def md (a0:au)(a1:Int):Int:=(dS (S:=Unit) (β:=Int) (fun (i1:Nat) (y1:List aa) (s3:Unit)=>(cond (decide ((y1.length:Int)>0)) (cond (((y1.getD 0 aa.zero).aq).bA==a1) (.inr ((i1:Int):Int)) (.inl ())) (.inl ()))) (fun (s3:Unit)=>((-1):Int)) 0 a0.aF ())
def gd (a0:au)(a1:Int):Prop:=(au.Sm (2^21) a0)
def R:=RR (p2 gd) (u2 md)
theorem aj {a0 a1}(h:gd a0 a1):R ((au.r a0),a1)=some (md a0 a1):=aM (a:=(a0,a1)) h
def aV:=CN [.agg tI,pI] oI RT.dec R
theorem bq (a0)(a1)(hg:gd a0 a1):∃n,start (iter step n) (au.r a0) a1=ret (md a0 a1):=by
 unfold gd at hg
 have H0:=hg
 unfold start md
 try simp only [SS]
 have Bh2:a0.aF.length≤maxLen:=(by
   have:=(H0.1).1
   try simp only [maxLen] at *
   omega)
 refine ex_eq (out:=ret) (cX (z:=[])) ?_
 refine dN (p:=Pt.p0 a1 0 (au.r a0)) fz ?_
 refine ck (pt:=fun (i1:Nat) (s3:Unit)=>Pt.p0 a1 (i1:Int) (au.r a0)) (s:=(():Unit)) (out:=ret) (fun _ _=>True) (fun J i1 s3 h2 hih2=>?_) (fun s3 hih2=>?_) trivial
 ·simp only [step,SS]
  have bb_:=Bh2
  simp only [maxLen] at bb_
  have:=(H0.1).1
  refine bt.yes (by apply decide_eq_true;omega) ?_
  refine bt.yes aH ?_
  refine bt.yes (aL h2) ?_
  refine bt.bif (fun c4=>?_) (fun c4=>?_)
  ·have dc4:=c4
   try simp only [DC] at dc4
   refine bt.yes aH ?_
   refine bt.yes (aL h2) ?_
   refine bt.yes (have:=((bK.getD (z:=[]) H0.1 h2)).1;dt) ?_
   refine bt.bif (fun c5=>?_) (fun c5=>?_)
   ·refine bt.inr ?_
    all_goals exact fz
   ·refine bt.inl trivial ?_
    rw [aE h2 Bh2]
    all_goals exact fz
  ·refine bt.inl trivial ?_
   rw [aE h2 Bh2]
   all_goals exact fz
 ·simp only [step,SS]
  have:=(H0.1).1
  refine dx (by apply decide_eq_false;omega) ?_
  refine ⟨0,?_⟩
  all_goals exact fz
theorem af:cw 245 aV:=L2 34 pid bY bZ live step start mix aD bq .nil Tryz.func245
theorem fa (a0:au)(a1:Int):-1≤md a0 a1∧md a0 a1<(a0.aF.length:Int):=by
 unfold md
 refine gb ?_ _ _
 all_goals
  intro i x s b h
  revert h
  simp only [Bool.cond_eq_ite]
  repeat' split
  all_goals (intro h;first | (cases h;rfl) | cases h)
end Z97
namespace Z98
def F (x0:bU)(x1:bU):aG:=(call (Z52.R x0) fun v1=>(call (Z52.R x1) fun v2=>(call (Z61.R (v1,v2)) fun v3=>(cond v3 (ret ((x0.bB==x1.bB):Bool)) (ret (false:Bool))))))
def md (a0:aC)(a1:aC):Bool:=(cond (Z61.md (Z52.md a0) (Z52.md a1)) ((a0.bB==a1.bB):Bool) (false:Bool))
def gd (a0:aC)(a1:aC):Prop:=(aC.Sm (2^21) a0)∧(aC.Sm (2^21) a1)
def R:=RR (p2 gd) (u2 md)
theorem aj {a0 a1}(h:gd a0 a1):R ((aC.r a0),(aC.r a1))=some (md a0 a1):=aM (a:=(a0,a1)) h
def aV:=CN [.agg fX,.agg fX] oB RT.dec R
theorem bq (a0)(a1)(hg:gd a0 a1):F (aC.r a0) (aC.r a1)=ret (md a0 a1):=by
 obtain ⟨H0,H1⟩:=hg
 unfold F md
 try simp only [SS]
 refine ct (Z52.aj H0) ?_
 try simp only [SS]
 refine ct (Z52.aj H1) ?_
 try simp only [SS]
 refine ct (Z61.aj ⟨⟨(have:=Z52.len a0;have:=(H0.1).1;have:=(H0.2.1).1;have:=(H0.2.2).1;om),fun _ _=>trivial⟩,⟨(have:=Z52.len a1;have:=(H1.1).1;have:=(H1.2.1).1;have:=(H1.2.2).1;om),fun _ _=>trivial⟩⟩) ?_
 refine av ret (fun c1=>?_) (fun _=>rfl)
 all_goals exact fz
theorem af:cw 368 aV:=W2 17 F mix aD bq (.cons Z52.af (.cons Z61.af .nil)) Tryz.func368
theorem md_eq (a0:aC)(a1:aC):md a0 a1=dZ a0 a1:=by
 unfold md
 simp only [Z61.md_eq,bool_beq]
 rw [Bool.eq_iff_iff]
 constructor
 ·intro h
  cases he:dZ (Z52.md a0) (Z52.md a1)<;>rw [he] at h
  ·cases h
  ·exact dm.2 (Z52.inj (dm.1 he))
 ·intro h
  rw [dm] at h
  rw [h,fP,fP];rfl
end Z98
namespace Z99
inductive Pt where
 | p0 (a:List (List L)) (b:List (List L)) (c:Int)
def pid:Pt→Nat
 | .p0 ..=>4
def bY:Pt→List V
 | .p0 a b c=>[.sl none 123 a,.sl none 123 b,.int .i64 c]
def bZ:Pt→List aU
 | .p0 a b c=>[]
def step (J:Pt→aG):Pt→aG
 | .p0 a b c=>(cond (decide (c<(a.length:Int))) (m2 c (a.length:Int) (m2 c (b.length:Int) (call (Z98.R ((aO.at a (toNat c)).aq,(aO.at b (toNat c)).aq)) fun v1=>(cond (!v1) (ret (false:Bool)) (J (.p0 a b (i64.wrap (c+1)))))))) (ret (true:Bool)))
def start (J:Pt→aG)(x0:List (List L))(x1:List (List L)):aG:=(cond (decide ((x0.length:Int)>(x1.length:Int))) (ret (false:Bool)) (J (.p0 x0 x1 0)))
def live:Nat→Live:=fun i=>match i with | 4=>[(0,none),(1,none),(5,none)] | _=>[]
def md (a0:List aa)(a1:List aa):Bool:=(bif (decide ((a0.length:Int)>(a1.length:Int))) then (false:Bool) else (eg (S:=Unit) (β:=Bool) (fun (i2:Nat) (s4:Unit)=>(cond (!(Z98.md ((a0.getD i2 aa.zero).aq) ((a1.getD i2 aa.zero).aq))) (.inr (false:Bool)) (.inl ()))) (fun (s4:Unit)=>(true:Bool)) a0.length 0 ()))
def gd (a0:List aa)(a1:List aa):Prop:=(bK (2^21) (fun y:aa=>aa.Sm (2^21) y) a0)∧(bK (2^21) (fun y:aa=>aa.Sm (2^21) y) a1)
def R:=RR (p2 gd) (u2 md)
theorem aj {a0 a1}(h:gd a0 a1):R ((a0.map aa.row),(a1.map aa.row))=some (md a0 a1):=aM (a:=(a0,a1)) h
def aV:=CN [pL 123,pL 123] oB RT.dec R
theorem bq (a0)(a1)(hg:gd a0 a1):∃n,start (iter step n) (a0.map aa.row) (a1.map aa.row)=ret (md a0 a1):=by
 obtain ⟨H0,H1⟩:=hg
 unfold start md
 try simp only [SS]
 refine gT ret (fun _=>⟨0,rfl⟩) (fun c1=>?_)
 have dc1:=c1
 try simp only [DC] at dc1
 have Bh3:a0.length≤maxLen:=(by
   have:=(H0).1
   try simp only [maxLen] at *
   omega)
 refine dN (p:=Pt.p0 (a0.map aa.row) (a1.map aa.row) 0) fz ?_
 refine ck (pt:=fun (i2:Nat) (s4:Unit)=>Pt.p0 (a0.map aa.row) (a1.map aa.row) (i2:Int)) (s:=(():Unit)) (out:=ret) (fun _ _=>True) (fun J i2 s4 h3 hih3=>?_) (fun s4 hih3=>?_) trivial
 ·simp only [step,SS]
  have bb_:=Bh3
  simp only [maxLen] at bb_
  have:=(H0).1
  refine bt.yes (by apply decide_eq_true;omega) ?_
  refine bt.yes aH ?_
  refine bt.yes (aL h3) ?_
  refine bt.yes aH ?_
  refine bt.yes (have:=(H1).1;dt) ?_
  refine cr (Z98.aj ⟨(bK.getD (z:=aa.zero) H0 h3).1,(bK.getD (z:=aa.zero) H1 (by first | assumption | omega | (simp (disch:=omega) only [wi];omega) | (simp;omega))).1⟩) ?_
  refine bt.bif (fun _=>bt.inr rfl) (fun c5=>?_)
  refine bt.inl trivial ?_
  rw [aE h3 Bh3]
  all_goals exact fz
 ·simp only [step,SS]
  have:=(H0).1
  refine dx (by apply decide_eq_false;omega) ?_
  refine ⟨0,?_⟩
  all_goals exact fz
theorem af:cw 302 aV:=L2 29 pid bY bZ live step start mix aD bq (.cons Z98.af .nil) Tryz.func302
end Z99
namespace Z100
def F (x0:bn)(x1:List (List L)):aG:=(call (Z69.R x1) fun v1=>(cond (!v1) (ret (6:Int)) (bX (decide ((0:Int)<(x1.length:Int))) (call (Z97.R (x0,(aO.at x1 0).aq.bA)) fun v2=>(cond (decide (v2<0)) (ret (1:Int)) (m2 v2 (x0.aF.length:Int) (call (Z99.R ((oO x0.aF (toNat v2)),x1)) fun v3=>(m2 v2 (x0.aF.length:Int) (call (Z99.R (x1,(oO x0.aF (toNat v2)))) fun v4=>(cond v3 (cond v4 (ret (2:Int)) (cond v3 (ret (3:Int)) (cond v4 (ret (4:Int)) (ret (5:Int))))) (cond v3 (ret (3:Int)) (cond v4 (ret (4:Int)) (ret (5:Int))))))))))))))
def md (a0:au)(a1:List aa):Int:=(cond (!(Z69.md a1)) (6:Int) (cond (decide ((Z97.md a0 (((a1.getD 0 aa.zero).aq).bA))<0)) (1:Int) (cond (Z99.md (a0.aF.getD (toNat (Z97.md a0 (((a1.getD 0 aa.zero).aq).bA))) []) a1) (cond (Z99.md a1 (a0.aF.getD (toNat (Z97.md a0 (((a1.getD 0 aa.zero).aq).bA))) [])) (2:Int) (cond (Z99.md (a0.aF.getD (toNat (Z97.md a0 (((a1.getD 0 aa.zero).aq).bA))) []) a1) (3:Int) (cond (Z99.md a1 (a0.aF.getD (toNat (Z97.md a0 (((a1.getD 0 aa.zero).aq).bA))) [])) (4:Int) (5:Int)))) (cond (Z99.md (a0.aF.getD (toNat (Z97.md a0 (((a1.getD 0 aa.zero).aq).bA))) []) a1) (3:Int) (cond (Z99.md a1 (a0.aF.getD (toNat (Z97.md a0 (((a1.getD 0 aa.zero).aq).bA))) [])) (4:Int) (5:Int))))))
def gd (a0:au)(a1:List aa):Prop:=(au.Sm (2^21) a0)∧(bK (2^21) (fun y:aa=>aa.Sm (2^21) y) a1)
def R:=RR (p2 gd) (u2 md)
theorem aj {a0 a1}(h:gd a0 a1):R ((au.r a0),(a1.map aa.row))=some (md a0 a1):=aM (a:=(a0,a1)) h
def aV:=CN [.agg tI,pL 123] oI RT.dec R
theorem bq (a0)(a1)(hg:gd a0 a1):F (au.r a0) (a1.map aa.row)=ret (md a0 a1):=by
 obtain ⟨H0,H1⟩:=hg
 unfold F md
 try simp only [SS]
 refine ct (Z69.aj H1) ?_
 refine av ret (fun _=>rfl) (fun c1=>?_)
 have dc1:=c1
 try simp only [DC] at dc1
 try have tc1:=Z69.tr (by simpa using c1)
 refine ak (have:=(H1).1;dt) ?_
 refine ct (Z97.aj H0) ?_
 have fv2_:=Z97.fa a0 (((a1.getD 0 aa.zero).aq).bA)
 refine av ret (fun _=>rfl) (fun c2=>?_)
 have dc2:=c2
 try simp only [DC] at dc2
 refine ak dt ?_
 refine ak (have:=(H0.1).1;dt) ?_
 refine ct (Z99.aj ⟨(bK.getD (z:=[]) H0.1 (by first | assumption | omega | (simp (disch:=omega) only [wi];omega) | (simp;omega))),H1⟩) ?_
 refine ak dt ?_
 refine ak (have:=(H0.1).1;dt) ?_
 refine ct (Z99.aj ⟨H1,(bK.getD (z:=[]) H0.1 (by first | assumption | omega | (simp (disch:=omega) only [wi];omega) | (simp;omega)))⟩) ?_
 refine av ret (fun c3=>?_) (fun c3=>?_)
 ·refine av ret (fun _=>rfl) (fun c4=>?_)
  refine av ret (fun _=>rfl) (fun c5=>?_)
  refine av ret (fun _=>rfl) (fun _=>rfl)
 ·refine av ret (fun _=>rfl) (fun c7=>?_)
  refine av ret (fun _=>rfl) (fun _=>rfl)
theorem af:cw 124 aV:=W2 43 F mix aD bq (.cons Z69.af (.cons Z97.af (.cons Z99.af .nil))) Tryz.func124
theorem fa (a0:au)(a1:List aa):(md a0 a1=3→1≤a1.length∧0≤Z97.md a0 (a1.getD 0 aa.zero).aq.bA)∧(md a0 a1=5→1≤a1.length∧0≤Z97.md a0 (a1.getD 0 aa.zero).aq.bA):=by
 unfold md
 cases h:Z69.md a1
 ·exact ⟨fun h=>by simp at h,fun h=>by simp at h⟩
 ·have t:=Z69.tr h
  cases hf:decide (Z97.md a0 ((a1.getD 0 aa.zero).aq.bA)<0)
  ·have:=of_decide_eq_false hf
   exact ⟨fun _=>⟨t.1,by omega⟩,fun _=>⟨t.1,by omega⟩⟩
  ·exact ⟨fun h=>by simp at h,fun h=>by simp at h⟩
end Z100
end Go.DM
end
