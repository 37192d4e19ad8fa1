/- What the functions compute that the law reaches, and that the law returns true. Conditions: none. -/
import Derived.Test.YtgagkddebgbdmaaGreatCanResolveTy
import Derived.Test.YtgagkddebgbdmaaGreatProg
import Derived.Lib.AppendZerosOnto
import Derived.Lib.Bytealg
import Derived.Laws.Externs
import Derived.Lib.Walk
import Derived.Lib.Hide
import Derived.Lib.Strings
set_option linter.all false
set_option maxRecDepth 100000
noncomputable section
namespace Go.DM
open Go.Proofs
open Go.IntKind (i64)
open Int (toNat)
open Nat (le_trans zero_le)
abbrev au:=K.int .i64
abbrev bf:=ret (false:Bool)
abbrev eG:=ret (true:Bool)
abbrev QqT (b:Int):Bool:=Nat.beq (toNat b) (toNat b)&&true
abbrev k7:List K:=[au,au,.bool,.int .u8]
abbrev f7:List Lf:=[fI,fI,fB,.rd (.int .u8)]
abbrev k8:List K:=[au,au,.bool,.int .u8]
abbrev f8:List Lf:=[fI,fI,fB,.rd (.int .u8)]
abbrev rO:List K:=[.str,.int .u64]
abbrev f13:List Lf:=[fS,.rd (.int .u64)]
abbrev rK:List K:=[.str,.int .u64]
abbrev f14:List Lf:=[fS,.rd (.int .u64)]
abbrev Cs:List K:=[.sl 152,.sl 162]
abbrev f24:List Lf:=[.fr 152,.fr 162]
abbrev BG:List K:=[.sl 152,.sl 162]
abbrev f25:List Lf:=[.fr 152,.fr 162]
abbrev Cq:List K:=[.sl 171]
abbrev f27:List Lf:=[.fr 171]
abbrev BH:List K:=[.sl 171]
abbrev f28:List Lf:=[.fr 171]
abbrev CE:List K:=[.sl 120,.sl 180]
abbrev f35:List Lf:=[.fr 120,.fr 180]
abbrev tO:List K:=[.sl 120,.sl 180]
abbrev f36:List Lf:=[.fr 120,.fr 180]
abbrev CD:List K:=[.str,au,au,.sl 9]
abbrev f37:List Lf:=[fS,fI,fI,.fr 9]
abbrev sX:List K:=[.str,au,au,.sl 9]
abbrev f38:List Lf:=[fS,fI,fI,.fr 9]
abbrev Cv:List K:=[.sl 120,.sl 180,au,.str,au,au,.sl 9,.sl 3,au]
abbrev f40:List Lf:=[.fr 120,.fr 180,fI,fS,fI,fI,.fr 9,.fr 3,fI]
abbrev Cw:List K:=[.sl 120,.sl 180,au,.str,au,au,.sl 9,.sl 3,au]
abbrev f41:List Lf:=[.fr 120,.fr 180,fI,fS,fI,fI,.fr 9,.fr 3,fI]
abbrev Cp:List K:=[.sl 148]
abbrev f45:List Lf:=[.fr 148]
abbrev vH:List K:=[.sl 148]
abbrev f46:List Lf:=[.fr 148]
abbrev Cu:List K:=[.sl 120,.sl 180,au,.str,au,au,.sl 9,.sl 3,au,.sl 148]
abbrev f68:List Lf:=[.fr 120,.fr 180,fI,fS,fI,fI,.fr 9,.fr 3,fI,.fr 148]
abbrev CB:List K:=[.sl 120,.sl 180,au,.str,au,au,.sl 9,.sl 3,au,.sl 148]
abbrev f69:List Lf:=[.fr 120,.fr 180,fI,fS,fI,fI,.fr 9,.fr 3,fI,.fr 148]
abbrev CA:List K:=[.str,au]
abbrev f99:List Lf:=[fS,fI]
abbrev BQ:List K:=[.str,au]
abbrev f100:List Lf:=[fS,fI]
abbrev BX:List K:=[.str,au]
abbrev f101:List Lf:=[fS,fI]
abbrev BK:List K:=[.sl 233,au]
abbrev f114:List Lf:=[.fr 233,fI]
abbrev Cb:List K:=[.sl 233,au]
abbrev f115:List Lf:=[.fr 233,fI]
abbrev Cg:List K:=[au,.sl 3]
abbrev f121:List Lf:=[fI,.fr 3]
abbrev oo:List K:=[au,.sl 3]
abbrev f122:List Lf:=[fI,.fr 3]
abbrev BM:List K:=[au,.str,au,au,.sl 9,.str,au,au,.sl 9,au,.sl 3,au,.sl 3]
abbrev f123:List Lf:=[fI,fS,fI,fI,.fr 9,fS,fI,fI,.fr 9,fI,.fr 3,fI,.fr 3]
abbrev ql:List K:=[au,.str,au,au,.sl 9,.str,au,au,.sl 9,au,.sl 3,au,.sl 3]
abbrev f124:List Lf:=[fI,fS,fI,fI,.fr 9,fS,fI,fI,.fr 9,fI,.fr 3,fI,.fr 3]
abbrev B7:List K:=[.sl 178,.bool,.str,au,au,.sl 9,au,.sl 3,au,.str,au,au,.sl 9,.str,au,au,.sl 9,au,.sl 3,au,.sl 3]
abbrev f125:List Lf:=[.fr 178,fB,fS,fI,fI,.fr 9,fI,.fr 3,fI,fS,fI,fI,.fr 9,fS,fI,fI,.fr 9,fI,.fr 3,fI,.fr 3]
abbrev qJ:List K:=[.sl 178,.bool,.str,au,au,.sl 9,au,.sl 3,au,.str,au,au,.sl 9,.str,au,au,.sl 9,au,.sl 3,au,.sl 3]
abbrev f126:List Lf:=[.fr 178,fB,fS,fI,fI,.fr 9,fI,.fr 3,fI,fS,fI,fI,.fr 9,fS,fI,fI,.fr 9,fI,.fr 3,fI,.fr 3]
abbrev BV:List K:=[.sl 120,.sl 180,.bool,.str,au,au,.sl 9,.bool,.sl 3]
abbrev f129:List Lf:=[.fr 120,.fr 180,fB,fS,fI,fI,.fr 9,fB,.fr 3]
abbrev A8:List K:=[.sl 120,.sl 180,.bool,.str,au,au,.sl 9,.bool,.sl 3]
abbrev f130:List Lf:=[.fr 120,.fr 180,fB,fS,fI,fI,.fr 9,fB,.fr 3]
abbrev Cc:List K:=[.sl 215,au]
abbrev f137:List Lf:=[.fr 215,fI]
abbrev AD:List K:=[.sl 215,au]
abbrev f138:List Lf:=[.fr 215,fI]
abbrev Ch:List K:=[au,.str,.sl 178,.bool,.str,au,au,.sl 9,au,.sl 3,au,.str,au,au,.sl 9,.str,au,au,.sl 9,au,.sl 3,au,.sl 3]
abbrev f147:List Lf:=[fI,fS,.fr 178,fB,fS,fI,fI,.fr 9,fI,.fr 3,fI,fS,fI,fI,.fr 9,fS,fI,fI,.fr 9,fI,.fr 3,fI,.fr 3]
abbrev zQ:List K:=[au,.str,.sl 178,.bool,.str,au,au,.sl 9,au,.sl 3,au,.str,au,au,.sl 9,.str,au,au,.sl 9,au,.sl 3,au,.sl 3]
abbrev f148:List Lf:=[fI,fS,.fr 178,fB,fS,fI,fI,.fr 9,fI,.fr 3,fI,fS,fI,fI,.fr 9,fS,fI,fI,.fr 9,fI,.fr 3,fI,.fr 3]
abbrev Ca:List K:=[.sl 3,au]
abbrev f154:List Lf:=[.fr 3,fI]
abbrev AA:List K:=[.sl 3,au]
abbrev f155:List Lf:=[.fr 3,fI]
abbrev B2:List K:=[au,au,au,au,au,au,au,au,.sl 3,au,.sl 3,au,au,.sl 3,au,.bool]
abbrev f156:List Lf:=[fI,fI,fI,fI,fI,fI,fI,fI,.fr 3,fI,.fr 3,fI,fI,.fr 3,fI,fB]
abbrev Ba:List K:=[au,au,au,au,au,au,au,au,.sl 3,au,.sl 3,au,au,.sl 3,au,.bool]
abbrev f157:List Lf:=[fI,fI,fI,fI,fI,fI,fI,fI,.fr 3,fI,.fr 3,fI,fI,.fr 3,fI,fB]
abbrev Ce:List K:=[au,au,au,au,au,au,au,au,.sl 3,au,.sl 3,au,au,.sl 3,au,.bool,.sl 315]
abbrev f159:List Lf:=[fI,fI,fI,fI,fI,fI,fI,fI,.fr 3,fI,.fr 3,fI,fI,.fr 3,fI,fB,.fr 315]
abbrev AZ:List K:=[au,au,au,au,au,au,au,au,.sl 3,au,.sl 3,au,au,.sl 3,au,.bool,.sl 315]
abbrev f160:List Lf:=[fI,fI,fI,fI,fI,fI,fI,fI,.fr 3,fI,.fr 3,fI,fI,.fr 3,fI,fB,.fr 315]
abbrev Ci:List K:=[au,au,au,au,au,au,au,au,.sl 3,au,.sl 3,au,au,.sl 3,au,.bool,.sl 315,au,au,au,au,au,au,au,au,.sl 3,au,.sl 3,au,au,.sl 3,au,.bool,.sl 315,au,au,au,au,au,au,au,au,.sl 3,au,.sl 3,au,au,.sl 3,au,.bool,.sl 315]
abbrev f161:List Lf:=[fI,fI,fI,fI,fI,fI,fI,fI,.fr 3,fI,.fr 3,fI,fI,.fr 3,fI,fB,.fr 315,fI,fI,fI,fI,fI,fI,fI,fI,.fr 3,fI,.fr 3,fI,fI,.fr 3,fI,fB,.fr 315,fI,fI,fI,fI,fI,fI,fI,fI,.fr 3,fI,.fr 3,fI,fI,.fr 3,fI,fB,.fr 315]
abbrev AQ:List K:=[au,au,au,au,au,au,au,au,.sl 3,au,.sl 3,au,au,.sl 3,au,.bool,.sl 315,au,au,au,au,au,au,au,au,.sl 3,au,.sl 3,au,au,.sl 3,au,.bool,.sl 315,au,au,au,au,au,au,au,au,.sl 3,au,.sl 3,au,au,.sl 3,au,.bool,.sl 315]
abbrev f162:List Lf:=[fI,fI,fI,fI,fI,fI,fI,fI,.fr 3,fI,.fr 3,fI,fI,.fr 3,fI,fB,.fr 315,fI,fI,fI,fI,fI,fI,fI,fI,.fr 3,fI,.fr 3,fI,fI,.fr 3,fI,fB,.fr 315,fI,fI,fI,fI,fI,fI,fI,fI,.fr 3,fI,.fr 3,fI,fI,.fr 3,fI,fB,.fr 315]
abbrev Bb:List K:=[.str,au,au,.sl 9]
abbrev f164:List Lf:=[fS,fI,fI,.fr 9]
abbrev AX:List K:=[au,.sl 3]
abbrev f165:List Lf:=[fI,.fr 3]
abbrev BP:List K:=[au,.str,au,au,.sl 9,.str,au,au,.sl 9,au,.sl 3,au,.sl 3]
abbrev f166:List Lf:=[fI,fS,fI,fI,.fr 9,fS,fI,fI,.fr 9,fI,.fr 3,fI,.fr 3]
abbrev AG:List K:=[au,.str,au,au,.sl 9,.str,au,au,.sl 9,au,.sl 3,au,.sl 3]
abbrev f167:List Lf:=[fI,fS,fI,fI,.fr 9,fS,fI,fI,.fr 9,fI,.fr 3,fI,.fr 3]
abbrev BO:List K:=[.sl 160,.bool,.str,au,au,.sl 9,au,.sl 3,au,.str,au,au,.sl 9,.str,au,au,.sl 9,au,.sl 3,au,.sl 3]
abbrev f168:List Lf:=[.fr 160,fB,fS,fI,fI,.fr 9,fI,.fr 3,fI,fS,fI,fI,.fr 9,fS,fI,fI,.fr 9,fI,.fr 3,fI,.fr 3]
abbrev AL:List K:=[.sl 160,.bool,.str,au,au,.sl 9,au,.sl 3,au,.str,au,au,.sl 9,.str,au,au,.sl 9,au,.sl 3,au,.sl 3]
abbrev f169:List Lf:=[.fr 160,fB,fS,fI,fI,.fr 9,fI,.fr 3,fI,fS,fI,fI,.fr 9,fS,fI,fI,.fr 9,fI,.fr 3,fI,.fr 3]
abbrev B4:List K:=[au,.str,.sl 160,.bool,.str,au,au,.sl 9,au,.sl 3,au,.str,au,au,.sl 9,.str,au,au,.sl 9,au,.sl 3,au,.sl 3]
abbrev f170:List Lf:=[fI,fS,.fr 160,fB,fS,fI,fI,.fr 9,fI,.fr 3,fI,fS,fI,fI,.fr 9,fS,fI,fI,.fr 9,fI,.fr 3,fI,.fr 3]
abbrev AY:List K:=[au,.str,.sl 160,.bool,.str,au,au,.sl 9,au,.sl 3,au,.str,au,au,.sl 9,.str,au,au,.sl 9,au,.sl 3,au,.sl 3]
abbrev f171:List Lf:=[fI,fS,.fr 160,fB,fS,fI,fI,.fr 9,fI,.fr 3,fI,fS,fI,fI,.fr 9,fS,fI,fI,.fr 9,fI,.fr 3,fI,.fr 3]
abbrev iT:List K:=[.sl 3,au]
abbrev f173:List Lf:=[.fr 3,fI]
abbrev BZ:List K:=[au,au,au,au,au,au,au,au,.sl 3,au,.sl 3,au,au,.sl 3,au,.bool]
abbrev f174:List Lf:=[fI,fI,fI,fI,fI,fI,fI,fI,.fr 3,fI,.fr 3,fI,fI,.fr 3,fI,fB]
abbrev fV:List K:=[au,au,au,au,au,au,au,au,.sl 3,au,.sl 3,au,au,.sl 3,au,.bool]
abbrev f175:List Lf:=[fI,fI,fI,fI,fI,fI,fI,fI,.fr 3,fI,.fr 3,fI,fI,.fr 3,fI,fB]
abbrev Cj:List K:=[au,au,au,au,au,au,au,au,.sl 3,au,.sl 3,au,au,.sl 3,au,.bool,.sl 227]
abbrev f177:List Lf:=[fI,fI,fI,fI,fI,fI,fI,fI,.fr 3,fI,.fr 3,fI,fI,.fr 3,fI,fB,.fr 227]
abbrev kB:List K:=[au,au,au,au,au,au,au,au,.sl 3,au,.sl 3,au,au,.sl 3,au,.bool,.sl 227]
abbrev f178:List Lf:=[fI,fI,fI,fI,fI,fI,fI,fI,.fr 3,fI,.fr 3,fI,fI,.fr 3,fI,fB,.fr 227]
abbrev BU:List K:=[au,au,au,au,au,au,au,au,.sl 3,au,.sl 3,au,au,.sl 3,au,.bool,.sl 227,au,au,au,au,au,au,au,au,.sl 3,au,.sl 3,au,au,.sl 3,au,.bool,.sl 227,au,au,au,au,au,au,au,au,.sl 3,au,.sl 3,au,au,.sl 3,au,.bool,.sl 227]
abbrev f179:List Lf:=[fI,fI,fI,fI,fI,fI,fI,fI,.fr 3,fI,.fr 3,fI,fI,.fr 3,fI,fB,.fr 227,fI,fI,fI,fI,fI,fI,fI,fI,.fr 3,fI,.fr 3,fI,fI,.fr 3,fI,fB,.fr 227,fI,fI,fI,fI,fI,fI,fI,fI,.fr 3,fI,.fr 3,fI,fI,.fr 3,fI,fB,.fr 227]
abbrev tI:List K:=[au,au,au,au,au,au,au,au,.sl 3,au,.sl 3,au,au,.sl 3,au,.bool,.sl 227,au,au,au,au,au,au,au,au,.sl 3,au,.sl 3,au,au,.sl 3,au,.bool,.sl 227,au,au,au,au,au,au,au,au,.sl 3,au,.sl 3,au,au,.sl 3,au,.bool,.sl 227]
abbrev f180:List Lf:=[fI,fI,fI,fI,fI,fI,fI,fI,.fr 3,fI,.fr 3,fI,fI,.fr 3,fI,fB,.fr 227,fI,fI,fI,fI,fI,fI,fI,fI,.fr 3,fI,.fr 3,fI,fI,.fr 3,fI,fB,.fr 227,fI,fI,fI,fI,fI,fI,fI,fI,.fr 3,fI,.fr 3,fI,fI,.fr 3,fI,fB,.fr 227]
abbrev BT:List K:=[.sl 178,.sl 38]
abbrev f214:List Lf:=[.fr 178,.fr 38]
abbrev vI:List K:=[.sl 178,.sl 38]
abbrev f215:List Lf:=[.fr 178,.fr 38]
abbrev BR:List K:=[au,au]
abbrev f226:List Lf:=[fI,fI]
abbrev yt:List K:=[au,au]
abbrev f227:List Lf:=[fI,fI]
abbrev Cd:List K:=[.sl 160,.sl 164]
abbrev f232:List Lf:=[.fr 160,.fr 164]
abbrev B1:List K:=[.sl 160,.sl 164]
abbrev f233:List Lf:=[.fr 160,.fr 164]
abbrev B8:List K:=[.int .i32,.int .u32]
abbrev f276:List Lf:=[.rd (.int .i32),.rd (.int .u32)]
abbrev BW:List K:=[.int .i32,.int .u32]
abbrev f277:List Lf:=[.rd (.int .i32),.rd (.int .u32)]
abbrev Bl:List K:=[au,au]
abbrev f315:List Lf:=[fI,fI]
def rE:List (Nat×TI):=[
 (2,⟨[au],false,[],8,false⟩),
 (3,⟨[au],false,[],8,false⟩),
 (4,⟨[.bool],false,[],1,false⟩),
 (5,⟨[.int .u8],false,[],1,false⟩),
 (6,⟨[.int .u8],false,[],1,false⟩),
 (7,⟨k7,true,[(0,2),(1,3),(2,4),(3,6)],24,false⟩),
 (8,⟨k8,true,[(0,2),(1,3),(2,4),(3,6)],24,false⟩),
 (9,⟨[.str],false,[],16,false⟩),
 (10,⟨[.str],false,[],16,false⟩),
 (11,⟨[.str],false,[],16,false⟩),
 (12,⟨[.int .u64],false,[],8,false⟩),
 (13,⟨rO,true,[(0,9),(1,12)],24,false⟩),
 (14,⟨rK,true,[(0,9),(1,12)],24,false⟩),
 (21,⟨[.int .i32],false,[],4,false⟩),
 (22,⟨[.sl 152],false,[],24,false⟩),
 (23,⟨[.sl 162],false,[],24,false⟩),
 (24,⟨Cs,true,[(0,22),(1,23)],48,false⟩),
 (25,⟨BG,true,[(0,22),(1,23)],48,false⟩),
 (26,⟨[.sl 171],false,[],24,false⟩),
 (27,⟨Cq,true,[(0,26)],24,false⟩),
 (28,⟨BH,true,[(0,26)],24,false⟩),
 (29,⟨[.sl 9],false,[],24,false⟩),
 (33,⟨[.sl 120],false,[],24,false⟩),
 (34,⟨[.sl 180],false,[],24,false⟩),
 (35,⟨CE,true,[(0,33),(1,34)],48,false⟩),
 (36,⟨tO,true,[(0,33),(1,34)],48,false⟩),
 (37,⟨CD,true,[(0,9),(1,3),(2,3),(3,29)],56,false⟩),
 (38,⟨sX,true,[(0,9),(1,3),(2,3),(3,29)],56,false⟩),
 (39,⟨[.sl 3],false,[],24,false⟩),
 (40,⟨Cv,true,[(0,36),(2,3),(3,38),(7,39),(8,3)],144,false⟩),
 (41,⟨Cw,true,[(0,36),(2,3),(3,38),(7,39),(8,3)],144,false⟩),
 (44,⟨[.sl 148],false,[],24,false⟩),
 (45,⟨Cp,true,[(0,44)],24,false⟩),
 (46,⟨vH,true,[(0,44)],24,false⟩),
 (57,⟨[.sl 100],false,[],24,false⟩),
 (59,⟨[.sl 101],false,[],24,false⟩),
 (66,⟨[.sl 115],false,[],24,false⟩),
 (68,⟨Cu,true,[(0,41),(9,46)],168,false⟩),
 (69,⟨CB,true,[(0,41),(9,46)],168,false⟩),
 (71,⟨[.sl 138],false,[],24,false⟩),
 (99,⟨CA,true,[(0,9),(1,3)],24,false⟩),
 (100,⟨BQ,true,[(0,9),(1,3)],24,true⟩),
 (101,⟨BX,true,[(0,9),(1,3)],24,true⟩),
 (113,⟨[.sl 233],false,[],24,false⟩),
 (114,⟨BK,true,[(0,113),(1,3)],32,false⟩),
 (115,⟨Cb,true,[(0,113),(1,3)],32,false⟩),
 (119,⟨[.sl 126],false,[],24,false⟩),
 (120,⟨[.sl 178],false,[],24,false⟩),
 (121,⟨Cg,true,[(0,3),(1,39)],32,false⟩),
 (122,⟨oo,true,[(0,3),(1,39)],32,false⟩),
 (123,⟨BM,true,[(0,3),(1,38),(5,38),(9,122),(11,122)],184,false⟩),
 (124,⟨ql,true,[(0,3),(1,38),(5,38),(9,122),(11,122)],184,false⟩),
 (125,⟨B7,true,[(0,120),(1,4),(2,38),(6,122),(8,124)],304,false⟩),
 (126,⟨qJ,true,[(0,120),(1,4),(2,38),(6,122),(8,124)],304,false⟩),
 (129,⟨BV,true,[(0,36),(2,4),(3,38),(7,4),(8,39)],144,false⟩),
 (130,⟨A8,true,[(0,36),(2,4),(3,38),(7,4),(8,39)],144,false⟩),
 (136,⟨[.sl 215],false,[],24,false⟩),
 (137,⟨Cc,true,[(0,136),(1,3)],32,false⟩),
 (138,⟨AD,true,[(0,136),(1,3)],32,false⟩),
 (147,⟨Ch,true,[(0,3),(1,9),(2,126)],328,false⟩),
 (148,⟨zQ,true,[(0,3),(1,9),(2,126)],328,false⟩),
 (152,⟨[.sl 160],false,[],24,false⟩),
 (154,⟨Ca,true,[(0,39),(1,3)],32,false⟩),
 (155,⟨AA,true,[(0,39),(1,3)],32,false⟩),
 (156,⟨B2,true,[(0,3),(1,3),(2,3),(3,3),(4,3),(5,3),(6,3),(7,3),(8,155),(10,155),(12,3),(13,155),(15,4)],176,false⟩),
 (157,⟨Ba,true,[(0,3),(1,3),(2,3),(3,3),(4,3),(5,3),(6,3),(7,3),(8,155),(10,155),(12,3),(13,155),(15,4)],176,false⟩),
 (158,⟨[.sl 315],false,[],24,false⟩),
 (159,⟨Ce,true,[(0,157),(16,158)],200,false⟩),
 (160,⟨AZ,true,[(0,157),(16,158)],200,false⟩),
 (161,⟨Ci,true,[(0,160),(17,160),(34,160)],600,false⟩),
 (162,⟨AQ,true,[(0,160),(17,160),(34,160)],600,false⟩),
 (164,⟨Bb,true,[(0,9),(1,3),(2,3),(3,29)],56,false⟩),
 (165,⟨AX,true,[(0,3),(1,39)],32,false⟩),
 (166,⟨BP,true,[(0,3),(1,164),(5,164),(9,165),(11,165)],184,false⟩),
 (167,⟨AG,true,[(0,3),(1,164),(5,164),(9,165),(11,165)],184,false⟩),
 (168,⟨BO,true,[(0,152),(1,4),(2,164),(6,165),(8,167)],304,false⟩),
 (169,⟨AL,true,[(0,152),(1,4),(2,164),(6,165),(8,167)],304,false⟩),
 (170,⟨B4,true,[(0,3),(1,9),(2,169)],328,false⟩),
 (171,⟨AY,true,[(0,3),(1,9),(2,169)],328,false⟩),
 (173,⟨iT,true,[(0,39),(1,3)],32,false⟩),
 (174,⟨BZ,true,[(0,3),(1,3),(2,3),(3,3),(4,3),(5,3),(6,3),(7,3),(8,173),(10,173),(12,3),(13,173),(15,4)],176,false⟩),
 (175,⟨fV,true,[(0,3),(1,3),(2,3),(3,3),(4,3),(5,3),(6,3),(7,3),(8,173),(10,173),(12,3),(13,173),(15,4)],176,false⟩),
 (176,⟨[.sl 227],false,[],24,false⟩),
 (177,⟨Cj,true,[(0,175),(16,176)],200,false⟩),
 (178,⟨kB,true,[(0,175),(16,176)],200,false⟩),
 (179,⟨BU,true,[(0,178),(17,178),(34,178)],600,false⟩),
 (180,⟨tI,true,[(0,178),(17,178),(34,178)],600,false⟩),
 (188,⟨[.sl 5],false,[],24,false⟩),
 (213,⟨[.sl 38],false,[],24,false⟩),
 (214,⟨BT,true,[(0,120),(1,213)],48,false⟩),
 (215,⟨vI,true,[(0,120),(1,213)],48,false⟩),
 (226,⟨BR,true,[(0,3),(1,3)],16,false⟩),
 (227,⟨yt,true,[(0,3),(1,3)],16,true⟩),
 (231,⟨[.sl 164],false,[],24,false⟩),
 (232,⟨Cd,true,[(0,152),(1,231)],48,false⟩),
 (233,⟨B1,true,[(0,152),(1,231)],48,false⟩),
 (273,⟨[.int .u32],false,[],4,false⟩),
 (276,⟨B8,true,[(0,21),(1,273)],8,false⟩),
 (277,⟨BW,true,[(0,21),(1,273)],8,false⟩),
 (315,⟨Bl,true,[(0,3),(1,3)],16,true⟩),
 (390,⟨[.sl 39],false,[],24,false⟩),
 (391,⟨[.int .u64],false,[],8,false⟩),
 (406,⟨[.int .u8],false,[],1,false⟩),
 (407,⟨[.int .u8],false,[],1,false⟩),
 (410,⟨[.int .i32],false,[],4,false⟩),
 (411,⟨[.int .i32],false,[],4,false⟩),
 (427,⟨[.sl 5],false,[],24,false⟩)]
abbrev Ev:Env:=dI rE
def aD:eP Tryz.prog rE=true:=by kernel_rfl
def mix:Tryz.prog.follows .mixedOrders=true:=by kernel_rfl
abbrev cq:=Valid Tryz.prog Ev
namespace Z0
def F (x0:aF)(x1:Int):aH:=(cond (decide ((i64.wrap (x1 - (x0.length:Int)))<0)) (ret ((-1):Int)) (ret ((i64.wrap (x1 - (x0.length:Int))):Int)))
def md (a0:List Int)(a1:Int):Int:=gS (fc (fun y:Int=>0) a0) a1
def gd (a0:List Int)(a1:Int):Prop:=(bI maxLen (fun y:Int=>True) a0)/\0<=a1/\a1<=1048576
def R:=RR (p2 gd) (u2 md)
def ak {a0 a1}(h:gd a0 a1):R ((a0.map bn),a1)=some (md a0 a1):=aM (a:=(a0,a1)) h
def aV:=CN [pL 3,pI] oI RT.dec R
def bp (a0)(a1)(hg:gd a0 a1):F (a0.map bn) a1=ret (md a0 a1):=by
 obtain ⟨hs,g0,g1⟩:=hg
 unfold F md
 rw [List.length_map,me g0 g1 hs.1]
 have e:fc (fun y:Int=>0) a0=a0.length:=by
  unfold fc
  have :(a0.map (fun y:Int=>0)).sum=0:=qM (fun _=>rfl) a0
  omega
 rw [e]
 by_cases hc:a1<((a0.length:Nat):Int)
 ·rw [bZ hc,decide_eq_true (by omega)];rfl
 ·rw [cJ hc,decide_eq_false (by omega)];rfl
def af:cq 275 aV:=W2 12 F mix aD bp .nil Tryz.func275
end Z0
namespace Z1
def F (x0:bC)(x1:Int):aH:=(call (Z0.R (x0.aU,x1)) fun v1=>(cond (decide (v1<0)) (ret ((-1):Int)) (ret (v1:Int))))
def md (a0:aL)(a1:Int):Int:=gS (aL.size a0) a1
def gd (a0:aL)(a1:Int):Prop:=(aL.Sm maxLen a0)/\0<=a1/\a1<=1048576
def R:=RR (p2 gd) (u2 md)
def ak {a0 a1}(h:gd a0 a1):R ((aL.r a0),a1)=some (md a0 a1):=aM (a:=(a0,a1)) h
def aV:=CN [.agg AA,pI] oI RT.dec R
def bp (a0)(a1)(hg:gd a0 a1):F (aL.r a0) a1=ret (md a0 a1):=by
 obtain ⟨hs,g0,g1⟩:=hg
 unfold md
 show (call (Z0.R ((a0.aU.map bn),a1)) fun v1=>(cond (decide (v1<0)) (ret ((-1):Int)) (ret (v1:Int))))=_
 rw [call_eq (Z0.ak (a1:=a1) ⟨hs,by omega,by omega⟩)]
 unfold Z0.md
 by_cases c0:a1<((fc (fun y:Int=>0) a0.aU:Nat):Int)
 ·rw [bZ c0];rw [show gS (aL.size a0) a1=-1 from bZ (by unfold aL.size;omega)];try rfl
 rw [cJ c0,dQ (by omega),bh]
 rw [show gS (aL.size a0) a1=a1 - ((fc (fun y:Int=>0) a0.aU:Nat):Int) from by rw [cJ (by unfold aL.size;omega)];unfold aL.size;omega]
def af:cq 274 aV:=W2 12 F mix aD bp (.cons Z0.af .nil) Tryz.func274
end Z1
namespace Z2
def F (x0:bW)(x1:Int):aH:=(call (Z1.R (x0.cg,x1)) fun v1=>(cond (decide (v1<0)) (ret ((-1):Int)) (call (Z1.R (x0.bN,v1)) fun v2=>(cond (decide (v2<0)) (ret ((-1):Int)) (call (Z1.R (x0.bK,v2)) fun v3=>(cond (decide (v3<0)) (ret ((-1):Int)) (ret (v3:Int))))))))
def md (a0:aE)(a1:Int):Int:=gS (aE.size a0) a1
def gd (a0:aE)(a1:Int):Prop:=(aE.Sm maxLen a0)/\0<=a1/\a1<=1048576
def R:=RR (p2 gd) (u2 md)
def ak {a0 a1}(h:gd a0 a1):R ((aE.r a0),a1)=some (md a0 a1):=aM (a:=(a0,a1)) h
def aV:=CN [.agg Ba,pI] oI RT.dec R
def bp (a0)(a1)(hg:gd a0 a1):F (aE.r a0) a1=ret (md a0 a1):=by
 obtain ⟨hs,g0,g1⟩:=hg
 unfold md
 show (call (Z1.R ((aL.r a0.cg),a1)) fun v1=>(bif (decide (v1<0)) then ret ((-1):Int) else (call (Z1.R ((aL.r a0.bN),v1)) fun v2=>(bif (decide (v2<0)) then ret ((-1):Int) else (call (Z1.R ((aL.r a0.bK),v2)) fun v3=>(cond (decide (v3<0)) (ret ((-1):Int)) (ret (v3:Int))))))))=_
 rw [call_eq (Z1.ak (a1:=a1) ⟨hs.1,by omega,by omega⟩)]
 unfold Z1.md
 by_cases c0:a1<((aL.size a0.cg:Nat):Int)
 ·rw [bZ c0];rw [show gS (aE.size a0) a1=-1 from bZ (by unfold aE.size;omega)];try rfl
 rw [cJ c0,dQ (by omega),bh]
 rw [call_eq (Z1.ak (a1:=(a1 - ((aL.size a0.cg:Nat):Int))) ⟨hs.2.1,by omega,by omega⟩)]
 unfold Z1.md
 by_cases c1:(a1 - ((aL.size a0.cg:Nat):Int))<((aL.size a0.bN:Nat):Int)
 ·rw [bZ c1];rw [show gS (aE.size a0) a1=-1 from bZ (by unfold aE.size;omega)];try rfl
 rw [cJ c1,dQ (by omega),bh]
 rw [call_eq (Z1.ak (a1:=(a1 - ((aL.size a0.cg:Nat):Int) - ((aL.size a0.bN:Nat):Int))) ⟨hs.2.2,by omega,by omega⟩)]
 unfold Z1.md
 by_cases c2:(a1 - ((aL.size a0.cg:Nat):Int) - ((aL.size a0.bN:Nat):Int))<((aL.size a0.bK:Nat):Int)
 ·rw [bZ c2];rw [show gS (aE.size a0) a1=-1 from bZ (by unfold aE.size;omega)];try rfl
 rw [cJ c2,dQ (by omega),bh]
 rw [show gS (aE.size a0) a1=a1 - ((aL.size a0.cg:Nat):Int) - ((aL.size a0.bN:Nat):Int) - ((aL.size a0.bK:Nat):Int) from by rw [cJ (by unfold aE.size;omega)];unfold aE.size;omega]
def af:cq 210 aV:=W2 24 F mix aD bp (.cons Z1.af .nil) Tryz.func210
end Z2
namespace Z3
def F (x0:aF)(x1:Int):aH:=(cond (decide ((i64.wrap (x1 - (x0.length:Int)))<0)) (ret ((-1):Int)) (ret ((i64.wrap (x1 - (x0.length:Int))):Int)))
def md (a0:List bz)(a1:Int):Int:=gS (fc (fun y:bz=>bz.size y) a0) a1
def gd (a0:List bz)(a1:Int):Prop:=(bI maxLen (fun y:bz=>bz.Sm maxLen y) a0)/\0<=a1/\a1<=1048576
def R:=RR (p2 gd) (u2 md)
def ak {a0 a1}(h:gd a0 a1):R ((a0.map bz.row),a1)=some (md a0 a1):=aM (a:=(a0,a1)) h
def aV:=CN [pL 315,pI] oI RT.dec R
def bp (a0)(a1)(hg:gd a0 a1):F (a0.map bz.row) a1=ret (md a0 a1):=by
 obtain ⟨hs,g0,g1⟩:=hg
 unfold F md
 rw [List.length_map,me g0 g1 hs.1]
 have e:fc (fun y:bz=>bz.size y) a0=a0.length:=by
  unfold fc
  have :(a0.map (fun y:bz=>bz.size y)).sum=0:=qM (fun _=>rfl) a0
  omega
 rw [e]
 by_cases hc:a1<((a0.length:Nat):Int)
 ·rw [bZ hc,decide_eq_true (by omega)];rfl
 ·rw [cJ hc,decide_eq_false (by omega)];rfl
def af:cq 211 aV:=W2 12 F mix aD bp .nil Tryz.func211
end Z3
namespace Z4
def F (x0:aT)(x1:Int):aH:=(call (Z2.R (x0.ay,x1)) fun v1=>(cond (decide (v1<0)) (ret ((-1):Int)) (call (Z3.R (x0.cT,v1)) fun v2=>(cond (decide (v2<0)) (ret ((-1):Int)) (ret (v2:Int))))))
def md (a0:aa)(a1:Int):Int:=gS (aa.size a0) a1
def gd (a0:aa)(a1:Int):Prop:=(aa.Sm maxLen a0)/\0<=a1/\a1<=1048576
def R:=RR (p2 gd) (u2 md)
def ak {a0 a1}(h:gd a0 a1):R ((aa.r a0),a1)=some (md a0 a1):=aM (a:=(a0,a1)) h
def aV:=CN [.agg AZ,pI] oI RT.dec R
def bp (a0)(a1)(hg:gd a0 a1):F (aa.r a0) a1=ret (md a0 a1):=by
 obtain ⟨hs,g0,g1⟩:=hg
 unfold md
 show (call (Z2.R ((aE.r a0.ay),a1)) fun v1=>(bif (decide (v1<0)) then ret ((-1):Int) else (call (Z3.R ((a0.cT.map bz.row),v1)) fun v2=>(cond (decide (v2<0)) (ret ((-1):Int)) (ret (v2:Int))))))=_
 rw [call_eq (Z2.ak (a1:=a1) ⟨hs.1,by omega,by omega⟩)]
 unfold Z2.md
 by_cases c0:a1<((aE.size a0.ay:Nat):Int)
 ·rw [bZ c0];rw [show gS (aa.size a0) a1=-1 from bZ (by unfold aa.size;omega)];try rfl
 rw [cJ c0,dQ (by omega),bh]
 rw [call_eq (Z3.ak (a1:=(a1 - ((aE.size a0.ay:Nat):Int))) ⟨hs.2,by omega,by omega⟩)]
 unfold Z3.md
 by_cases c1:(a1 - ((aE.size a0.ay:Nat):Int))<((fc (fun y:bz=>bz.size y) a0.cT:Nat):Int)
 ·rw [bZ c1];rw [show gS (aa.size a0) a1=-1 from bZ (by unfold aa.size;omega)];try rfl
 rw [cJ c1,dQ (by omega),bh]
 rw [show gS (aa.size a0) a1=a1 - ((aE.size a0.ay:Nat):Int) - ((fc (fun y:bz=>bz.size y) a0.cT:Nat):Int) from by rw [cJ (by unfold aa.size;omega)];unfold aa.size;omega]
def af:cq 160 aV:=W2 18 F mix aD bp (.cons Z2.af (.cons Z3.af .nil)) Tryz.func160
end Z4
namespace Z5
inductive Pt where
 | p0 (a:aF) (b c:Int)
def pid:Pt->Nat
 | .p0 ..=>5
def cQ:Pt->List V
 | .p0 a b c=>[.sl none 160 a,.int .i64 b,.int .i64 c]
def cR:Pt->List aS
 | .p0 a b c=>[]
def step (J:Pt->aH):Pt->aH
 | .p0 a b c=>(cond (decide (c<(a.length:Int))) (m2 c (a.length:Int) (call (Z4.R ((aT.at a (toNat c)),b)) fun v1=>(cond (decide (v1<0)) (ret ((-1):Int)) (J (.p0 a v1 (i64.wrap (c+1))))))) (ret (b:Int)))
def start (J:Pt->aH)(x0:aF)(x1:Int):aH:=(cond (decide ((i64.wrap (x1 - (x0.length:Int)))<0)) (ret ((-1):Int)) (J (.p0 x0 (i64.wrap (x1 - (x0.length:Int))) 0)))
def live:Nat->Live:=fun i=>match i with | 5=>[(0,none),(1,none),(5,none)] | _=>[]
def md (a0:List aa)(a1:Int):Int:=gS (fc (fun y:aa=>aa.size y) a0) a1
def gd (a0:List aa)(a1:Int):Prop:=(bI maxLen (fun y:aa=>aa.Sm maxLen y) a0)/\0<=a1/\a1<=1048576
def R:=RR (p2 gd) (u2 md)
def ak {a0 a1}(h:gd a0 a1):R ((a0.map aa.row),a1)=some (md a0 a1):=aM (a:=(a0,a1)) h
def aV:=CN [pL 160,pI] oI RT.dec R
def bp (a0)(a1)(hg:gd a0 a1):∃n,start (iter step n) (a0.map aa.row) a1=ret (md a0 a1):=by
 obtain ⟨hs,g0,g1⟩:=hg
 unfold start md
 simp only [List.length_map]
 refine nV (pt:=fun left i=>Pt.p0 (a0.map aa.row) left (i:Int)) (f:=fun y:aa=>aa.size y) hs.1 (fun J i h left p0 p1=>?_) (fun J left=>?_) g0 g1
 ·simp only [step,MM,List.length_map,bM h,bE,aZ,cP,aa.ga h]
  rw [call_eq (Z4.ak ⟨hs.get h,p0,p1⟩),aJ h hs.1]
  unfold Z4.md
  by_cases hc:left<((aa.size (a0[i]):Nat):Int)
  ·rw [bZ hc,if_pos hc];rfl
  ·rw [cJ hc,if_neg hc,dQ (by omega)];rfl
 ·simp only [step,List.length_map,ff,bh]
def af:cq 108 aV:=L2 27 pid cQ cR live step start mix aD bp (.cons Z4.af .nil) Tryz.func108
end Z5
namespace Z6
inductive Pt where
 | p0 (a:aF) (b c:Int)
def pid:Pt->Nat
 | .p0 ..=>5
def cQ:Pt->List V
 | .p0 a b c=>[.sl none 152 a,.int .i64 b,.int .i64 c]
def cR:Pt->List aS
 | .p0 a b c=>[]
def step (J:Pt->aH):Pt->aH
 | .p0 a b c=>(cond (decide (c<(a.length:Int))) (m2 c (a.length:Int) (call (Z5.R ((pX a (toNat c)),b)) fun v1=>(cond (decide (v1<0)) (ret ((-1):Int)) (J (.p0 a v1 (i64.wrap (c+1))))))) (ret (b:Int)))
def start (J:Pt->aH)(x0:aF)(x1:Int):aH:=(cond (decide ((i64.wrap (x1 - (x0.length:Int)))<0)) (ret ((-1):Int)) (J (.p0 x0 (i64.wrap (x1 - (x0.length:Int))) 0)))
def live:Nat->Live:=fun i=>match i with | 5=>[(0,none),(1,none),(5,none)] | _=>[]
def md (a0:List (List aa))(a1:Int):Int:=gS (fc (fun y:List aa=>fc (fun y:aa=>aa.size y) y) a0) a1
def gd (a0:List (List aa))(a1:Int):Prop:=(bI maxLen (fun y:List aa=>bI maxLen (fun y:aa=>aa.Sm maxLen y) y) a0)/\0<=a1/\a1<=1048576
def R:=RR (p2 gd) (u2 md)
def ak {a0 a1}(h:gd a0 a1):R ((a0.map (eL aa.row)),a1)=some (md a0 a1):=aM (a:=(a0,a1)) h
def aV:=CN [pL 152,pI] oI RT.dec R
def bp (a0)(a1)(hg:gd a0 a1):∃n,start (iter step n) (a0.map (eL aa.row)) a1=ret (md a0 a1):=by
 obtain ⟨hs,g0,g1⟩:=hg
 unfold start md
 simp only [List.length_map]
 refine nV (pt:=fun left i=>Pt.p0 (a0.map (eL aa.row)) left (i:Int)) (f:=fun y:List aa=>fc (fun y:aa=>aa.size y) y) hs.1 (fun J i h left p0 p1=>?_) (fun J left=>?_) g0 g1
 ·simp only [step,MM,List.length_map,bM h,bE,aZ,cP,qh h]
  rw [call_eq (Z5.ak ⟨hs.get h,p0,p1⟩),aJ h hs.1]
  unfold Z5.md
  by_cases hc:left<((fc (fun y:aa=>aa.size y) (a0[i]):Nat):Int)
  ·rw [bZ hc,if_pos hc];rfl
  ·rw [cJ hc,if_neg hc,dQ (by omega)];rfl
 ·simp only [step,List.length_map,ff,bh]
def af:cq 46 aV:=L2 27 pid cQ cR live step start mix aD bp (.cons Z5.af .nil) Tryz.func46
end Z6
namespace Z7
def F (x0:cu)(x1:Int):aH:=(call (Z4.R (x0.aX,x1)) fun v1=>(cond (decide (v1<0)) (ret ((-1):Int)) (call (Z4.R (x0.fA,v1)) fun v2=>(cond (decide (v2<0)) (ret ((-1):Int)) (call (Z4.R (x0.fB,v2)) fun v3=>(cond (decide (v3<0)) (ret ((-1):Int)) (ret (v3:Int))))))))
def md (a0:aI)(a1:Int):Int:=gS (aI.size a0) a1
def gd (a0:aI)(a1:Int):Prop:=(aI.Sm maxLen a0)/\0<=a1/\a1<=1048576
def R:=RR (p2 gd) (u2 md)
def ak {a0 a1}(h:gd a0 a1):R ((aI.r a0),a1)=some (md a0 a1):=aM (a:=(a0,a1)) h
def aV:=CN [.agg AQ,pI] oI RT.dec R
def bp (a0)(a1)(hg:gd a0 a1):F (aI.r a0) a1=ret (md a0 a1):=by
 obtain ⟨hs,g0,g1⟩:=hg
 unfold md
 show (call (Z4.R ((aa.r a0.aX),a1)) fun v1=>(bif (decide (v1<0)) then ret ((-1):Int) else (call (Z4.R ((aa.r a0.fA),v1)) fun v2=>(bif (decide (v2<0)) then ret ((-1):Int) else (call (Z4.R ((aa.r a0.fB),v2)) fun v3=>(cond (decide (v3<0)) (ret ((-1):Int)) (ret (v3:Int))))))))=_
 rw [call_eq (Z4.ak (a1:=a1) ⟨hs.1,by omega,by omega⟩)]
 unfold Z4.md
 by_cases c0:a1<((aa.size a0.aX:Nat):Int)
 ·rw [bZ c0];rw [show gS (aI.size a0) a1=-1 from bZ (by unfold aI.size;omega)];try rfl
 rw [cJ c0,dQ (by omega),bh]
 rw [call_eq (Z4.ak (a1:=(a1 - ((aa.size a0.aX:Nat):Int))) ⟨hs.2.1,by omega,by omega⟩)]
 unfold Z4.md
 by_cases c1:(a1 - ((aa.size a0.aX:Nat):Int))<((aa.size a0.fA:Nat):Int)
 ·rw [bZ c1];rw [show gS (aI.size a0) a1=-1 from bZ (by unfold aI.size;omega)];try rfl
 rw [cJ c1,dQ (by omega),bh]
 rw [call_eq (Z4.ak (a1:=(a1 - ((aa.size a0.aX:Nat):Int) - ((aa.size a0.fA:Nat):Int))) ⟨hs.2.2,by omega,by omega⟩)]
 unfold Z4.md
 by_cases c2:(a1 - ((aa.size a0.aX:Nat):Int) - ((aa.size a0.fA:Nat):Int))<((aa.size a0.fB:Nat):Int)
 ·rw [bZ c2];rw [show gS (aI.size a0) a1=-1 from bZ (by unfold aI.size;omega)];try rfl
 rw [cJ c2,dQ (by omega),bh]
 rw [show gS (aI.size a0) a1=a1 - ((aa.size a0.aX:Nat):Int) - ((aa.size a0.fA:Nat):Int) - ((aa.size a0.fB:Nat):Int) from by rw [cJ (by unfold aI.size;omega)];unfold aI.size;omega]
def af:cq 109 aV:=W2 24 F mix aD bp (.cons Z4.af .nil) Tryz.func109
end Z7
namespace Z8
inductive Pt where
 | p0 (a:aF) (b c:Int)
def pid:Pt->Nat
 | .p0 ..=>5
def cQ:Pt->List V
 | .p0 a b c=>[.sl none 162 a,.int .i64 b,.int .i64 c]
def cR:Pt->List aS
 | .p0 a b c=>[]
def step (J:Pt->aH):Pt->aH
 | .p0 a b c=>(cond (decide (c<(a.length:Int))) (m2 c (a.length:Int) (call (Z7.R ((cu.at a (toNat c)),b)) fun v1=>(cond (decide (v1<0)) (ret ((-1):Int)) (J (.p0 a v1 (i64.wrap (c+1))))))) (ret (b:Int)))
def start (J:Pt->aH)(x0:aF)(x1:Int):aH:=(cond (decide ((i64.wrap (x1 - (x0.length:Int)))<0)) (ret ((-1):Int)) (J (.p0 x0 (i64.wrap (x1 - (x0.length:Int))) 0)))
def live:Nat->Live:=fun i=>match i with | 5=>[(0,none),(1,none),(5,none)] | _=>[]
def md (a0:List aI)(a1:Int):Int:=gS (fc (fun y:aI=>aI.size y) a0) a1
def gd (a0:List aI)(a1:Int):Prop:=(bI maxLen (fun y:aI=>aI.Sm maxLen y) a0)/\0<=a1/\a1<=1048576
def R:=RR (p2 gd) (u2 md)
def ak {a0 a1}(h:gd a0 a1):R ((a0.map aI.row),a1)=some (md a0 a1):=aM (a:=(a0,a1)) h
def aV:=CN [pL 162,pI] oI RT.dec R
def bp (a0)(a1)(hg:gd a0 a1):∃n,start (iter step n) (a0.map aI.row) a1=ret (md a0 a1):=by
 obtain ⟨hs,g0,g1⟩:=hg
 unfold start md
 simp only [List.length_map]
 refine nV (pt:=fun left i=>Pt.p0 (a0.map aI.row) left (i:Int)) (f:=fun y:aI=>aI.size y) hs.1 (fun J i h left p0 p1=>?_) (fun J left=>?_) g0 g1
 ·simp only [step,MM,List.length_map,bM h,bE,aZ,cP,aI.ga h]
  rw [call_eq (Z7.ak ⟨hs.get h,p0,p1⟩),aJ h hs.1]
  unfold Z7.md
  by_cases hc:left<((aI.size (a0[i]):Nat):Int)
  ·rw [bZ hc,if_pos hc];rfl
  ·rw [cJ hc,if_neg hc,dQ (by omega)];rfl
 ·simp only [step,List.length_map,ff,bh]
def af:cq 47 aV:=L2 27 pid cQ cR live step start mix aD bp (.cons Z7.af .nil) Tryz.func47
end Z8
namespace Z9
def F (x0:bt)(x1:Int):aH:=(call (Z6.R (x0.aK,x1)) fun v1=>(cond (decide (v1<0)) (ret ((-1):Int)) (call (Z8.R (x0.bq,v1)) fun v2=>(cond (decide (v2<0)) (ret ((-1):Int)) (ret (v2:Int))))))
def md (a0:an)(a1:Int):Int:=gS (an.size a0) a1
def gd (a0:an)(a1:Int):Prop:=(an.Sm maxLen a0)/\0<=a1/\a1<=1048576
def R:=RR (p2 gd) (u2 md)
def ak {a0 a1}(h:gd a0 a1):R ((an.r a0),a1)=some (md a0 a1):=aM (a:=(a0,a1)) h
def aV:=CN [.agg BG,pI] oI RT.dec R
def bp (a0)(a1)(hg:gd a0 a1):F (an.r a0) a1=ret (md a0 a1):=by
 obtain ⟨hs,g0,g1⟩:=hg
 unfold md
 show (call (Z6.R ((a0.aK.map (eL aa.row)),a1)) fun v1=>(bif (decide (v1<0)) then ret ((-1):Int) else (call (Z8.R ((a0.bq.map aI.row),v1)) fun v2=>(cond (decide (v2<0)) (ret ((-1):Int)) (ret (v2:Int))))))=_
 rw [call_eq (Z6.ak (a1:=a1) ⟨hs.1,by omega,by omega⟩)]
 unfold Z6.md
 by_cases c0:a1<((fc (fun y:List aa=>fc (fun y:aa=>aa.size y) y) a0.aK:Nat):Int)
 ·rw [bZ c0];rw [show gS (an.size a0) a1=-1 from bZ (by unfold an.size;omega)];try rfl
 rw [cJ c0,dQ (by omega),bh]
 rw [call_eq (Z8.ak (a1:=(a1 - ((fc (fun y:List aa=>fc (fun y:aa=>aa.size y) y) a0.aK:Nat):Int))) ⟨hs.2,by omega,by omega⟩)]
 unfold Z8.md
 by_cases c1:(a1 - ((fc (fun y:List aa=>fc (fun y:aa=>aa.size y) y) a0.aK:Nat):Int))<((fc (fun y:aI=>aI.size y) a0.bq:Nat):Int)
 ·rw [bZ c1];rw [show gS (an.size a0) a1=-1 from bZ (by unfold an.size;omega)];try rfl
 rw [cJ c1,dQ (by omega),bh]
 rw [show gS (an.size a0) a1=a1 - ((fc (fun y:List aa=>fc (fun y:aa=>aa.size y) y) a0.aK:Nat):Int) - ((fc (fun y:aI=>aI.size y) a0.bq:Nat):Int) from by rw [cJ (by unfold an.size;omega)];unfold an.size;omega]
def af:cq 8 aV:=W2 18 F mix aD bp (.cons Z6.af (.cons Z8.af .nil)) Tryz.func8
end Z9
namespace Z10
inductive Pt where
 | p0 (a:aF) (b c:Int)
def pid:Pt->Nat
 | .p0 ..=>5
def cQ:Pt->List V
 | .p0 a b c=>[.sl none 9 a,.int .i64 b,.int .i64 c]
def cR:Pt->List aS
 | .p0 a b c=>[]
def step (J:Pt->aH):Pt->aH
 | .p0 a b c=>(cond (decide (c<(a.length:Int))) (m2 c (a.length:Int) (cond (decide ((i64.wrap (b - ((pW a (toNat c)).size:Int)))<0)) (ret ((-1):Int)) (J (.p0 a (i64.wrap (b - ((pW a (toNat c)).size:Int))) (i64.wrap (c+1)))))) (ret (b:Int)))
def start (J:Pt->aH)(x0:aF)(x1:Int):aH:=(cond (decide ((i64.wrap (x1 - (x0.length:Int)))<0)) (ret ((-1):Int)) (J (.p0 x0 (i64.wrap (x1 - (x0.length:Int))) 0)))
def live:Nat->Live:=fun i=>match i with | 5=>[(0,none),(1,none),(5,none)] | _=>[]
def md (a0:List aA)(a1:Int):Int:=gS (fc (fun y:aA=>y.size) a0) a1
def gd (a0:List aA)(a1:Int):Prop:=(bI maxLen (fun y:aA=>y.size<=maxLen) a0)/\0<=a1/\a1<=1048576
def R:=RR (p2 gd) (u2 md)
def ak {a0 a1}(h:gd a0 a1):R ((a0.map cL),a1)=some (md a0 a1):=aM (a:=(a0,a1)) h
def aV:=CN [pL 9,pI] oI RT.dec R
def bp (a0)(a1)(hg:gd a0 a1):∃n,start (iter step n) (a0.map cL) a1=ret (md a0 a1):=by
 obtain ⟨hs,g0,g1⟩:=hg
 unfold start md
 simp only [List.length_map]
 refine nV (pt:=fun left i=>Pt.p0 (a0.map cL) left (i:Int)) (f:=fun y:aA=>y.size) hs.1 (fun J i h left p0 p1=>?_) (fun J left=>?_) g0 g1
 ·simp only [step,MM,List.length_map,bM h,bE,aZ,cP,qe h]
  rw [me p0 p1 (hs.get h),aJ h hs.1]
  by_cases hc:left - ((a0[i].size:Nat):Int)<0
  ·rw [decide_eq_true hc,if_pos (by omega)];rfl
  ·rw [decide_eq_false hc,if_neg (by omega)];rfl
 ·simp only [step,List.length_map,ff,bh]
def af:cq 10 aV:=L2 28 pid cQ cR live step start mix aD bp .nil Tryz.func10
end Z10
namespace Z11
def F (x0:aW)(x1:Int):aH:=(cond (decide ((i64.wrap (x1 - (x0.aQ.size:Int)))<0)) (ret ((-1):Int)) (call (Z10.R (x0.bB,(i64.wrap (x1 - (x0.aQ.size:Int))))) fun v1=>(cond (decide (v1<0)) (ret ((-1):Int)) (ret (v1:Int)))))
def md (a0:ah)(a1:Int):Int:=gS (ah.size a0) a1
def gd (a0:ah)(a1:Int):Prop:=(ah.Sm maxLen a0)/\0<=a1/\a1<=1048576
def R:=RR (p2 gd) (u2 md)
def ak {a0 a1}(h:gd a0 a1):R ((ah.r a0),a1)=some (md a0 a1):=aM (a:=(a0,a1)) h
def aV:=CN [.agg Bb,pI] oI RT.dec R
def bp (a0)(a1)(hg:gd a0 a1):F (ah.r a0) a1=ret (md a0 a1):=by
 obtain ⟨hs,g0,g1⟩:=hg
 unfold md
 show (bif (decide ((i64.wrap (a1 - (a0.aQ.size:Int)))<0)) then ret ((-1):Int) else (call (Z10.R ((a0.bB.map cL),(i64.wrap (a1 - (a0.aQ.size:Int))))) fun v1=>(cond (decide (v1<0)) (ret ((-1):Int)) (ret (v1:Int)))))=_
 rw [me (left:=a1) (s:=a0.aQ.size) (by omega) (by omega) hs.1]
 by_cases c0:a1 - ((a0.aQ.size:Nat):Int)<0
 ·rw [decide_eq_true c0,aZ];rw [show gS (ah.size a0) a1=-1 from bZ (by unfold ah.size;omega)];try rfl
 rw [decide_eq_false c0,bh]
 rw [call_eq (Z10.ak (a1:=(a1 - ((a0.aQ.size:Nat):Int))) ⟨hs.2,by omega,by omega⟩)]
 unfold Z10.md
 by_cases c1:(a1 - ((a0.aQ.size:Nat):Int))<((fc (fun y:aA=>y.size) a0.bB:Nat):Int)
 ·rw [bZ c1];rw [show gS (ah.size a0) a1=-1 from bZ (by unfold ah.size;omega)];try rfl
 rw [cJ c1,dQ (by omega),bh]
 rw [show gS (ah.size a0) a1=a1 - ((a0.aQ.size:Nat):Int) - ((fc (fun y:aA=>y.size) a0.bB:Nat):Int) from by rw [cJ (by unfold ah.size;omega)];unfold ah.size;omega]
def af:cq 212 aV:=W2 19 F mix aD bp (.cons Z10.af .nil) Tryz.func212
end Z11
namespace Z12
def F (x0:bH)(x1:Int):aH:=(call (Z0.R (x0.bB,x1)) fun v1=>(cond (decide (v1<0)) (ret ((-1):Int)) (ret (v1:Int))))
def md (a0:aB)(a1:Int):Int:=gS (aB.size a0) a1
def gd (a0:aB)(a1:Int):Prop:=(aB.Sm maxLen a0)/\0<=a1/\a1<=1048576
def R:=RR (p2 gd) (u2 md)
def ak {a0 a1}(h:gd a0 a1):R ((aB.r a0),a1)=some (md a0 a1):=aM (a:=(a0,a1)) h
def aV:=CN [.agg AX,pI] oI RT.dec R
def bp (a0)(a1)(hg:gd a0 a1):F (aB.r a0) a1=ret (md a0 a1):=by
 obtain ⟨hs,g0,g1⟩:=hg
 unfold md
 show (call (Z0.R ((a0.bB.map bn),a1)) fun v1=>(cond (decide (v1<0)) (ret ((-1):Int)) (ret (v1:Int))))=_
 rw [call_eq (Z0.ak (a1:=a1) ⟨hs,by omega,by omega⟩)]
 unfold Z0.md
 by_cases c0:a1<((fc (fun y:Int=>0) a0.bB:Nat):Int)
 ·rw [bZ c0];rw [show gS (aB.size a0) a1=-1 from bZ (by unfold aB.size;omega)];try rfl
 rw [cJ c0,dQ (by omega),bh]
 rw [show gS (aB.size a0) a1=a1 - ((fc (fun y:Int=>0) a0.bB:Nat):Int) from by rw [cJ (by unfold aB.size;omega)];unfold aB.size;omega]
def af:cq 213 aV:=W2 12 F mix aD bp (.cons Z0.af .nil) Tryz.func213
end Z12
namespace Z13
def F (x0:dm)(x1:Int):aH:=(call (Z11.R (x0.aX,x1)) fun v1=>(cond (decide (v1<0)) (ret ((-1):Int)) (call (Z11.R (x0.bQ,v1)) fun v2=>(cond (decide (v2<0)) (ret ((-1):Int)) (call (Z12.R (x0.dx,v2)) fun v3=>(cond (decide (v3<0)) (ret ((-1):Int)) (call (Z12.R (x0.cw,v3)) fun v4=>(cond (decide (v4<0)) (ret ((-1):Int)) (ret (v4:Int))))))))))
def md (a0:bG)(a1:Int):Int:=gS (bG.size a0) a1
def gd (a0:bG)(a1:Int):Prop:=(bG.Sm maxLen a0)/\0<=a1/\a1<=1048576
def R:=RR (p2 gd) (u2 md)
def ak {a0 a1}(h:gd a0 a1):R ((bG.r a0),a1)=some (md a0 a1):=aM (a:=(a0,a1)) h
def aV:=CN [.agg AG,pI] oI RT.dec R
def bp (a0)(a1)(hg:gd a0 a1):F (bG.r a0) a1=ret (md a0 a1):=by
 obtain ⟨hs,g0,g1⟩:=hg
 unfold md
 show (call (Z11.R ((ah.r a0.aX),a1)) fun v1=>(bif (decide (v1<0)) then ret ((-1):Int) else (call (Z11.R ((ah.r a0.bQ),v1)) fun v2=>(bif (decide (v2<0)) then ret ((-1):Int) else (call (Z12.R ((aB.r a0.dx),v2)) fun v3=>(bif (decide (v3<0)) then ret ((-1):Int) else (call (Z12.R ((aB.r a0.cw),v3)) fun v4=>(cond (decide (v4<0)) (ret ((-1):Int)) (ret (v4:Int))))))))))=_
 rw [call_eq (Z11.ak (a1:=a1) ⟨hs.1,by omega,by omega⟩)]
 unfold Z11.md
 by_cases c0:a1<((ah.size a0.aX:Nat):Int)
 ·rw [bZ c0];rw [show gS (bG.size a0) a1=-1 from bZ (by unfold bG.size;omega)];try rfl
 rw [cJ c0,dQ (by omega),bh]
 rw [call_eq (Z11.ak (a1:=(a1 - ((ah.size a0.aX:Nat):Int))) ⟨hs.2.1,by omega,by omega⟩)]
 unfold Z11.md
 by_cases c1:(a1 - ((ah.size a0.aX:Nat):Int))<((ah.size a0.bQ:Nat):Int)
 ·rw [bZ c1];rw [show gS (bG.size a0) a1=-1 from bZ (by unfold bG.size;omega)];try rfl
 rw [cJ c1,dQ (by omega),bh]
 rw [call_eq (Z12.ak (a1:=(a1 - ((ah.size a0.aX:Nat):Int) - ((ah.size a0.bQ:Nat):Int))) ⟨hs.2.2.1,by omega,by omega⟩)]
 unfold Z12.md
 by_cases c2:(a1 - ((ah.size a0.aX:Nat):Int) - ((ah.size a0.bQ:Nat):Int))<((aB.size a0.dx:Nat):Int)
 ·rw [bZ c2];rw [show gS (bG.size a0) a1=-1 from bZ (by unfold bG.size;omega)];try rfl
 rw [cJ c2,dQ (by omega),bh]
 rw [call_eq (Z12.ak (a1:=(a1 - ((ah.size a0.aX:Nat):Int) - ((ah.size a0.bQ:Nat):Int) - ((aB.size a0.dx:Nat):Int))) ⟨hs.2.2.2,by omega,by omega⟩)]
 unfold Z12.md
 by_cases c3:(a1 - ((ah.size a0.aX:Nat):Int) - ((ah.size a0.bQ:Nat):Int) - ((aB.size a0.dx:Nat):Int))<((aB.size a0.cw:Nat):Int)
 ·rw [bZ c3];rw [show gS (bG.size a0) a1=-1 from bZ (by unfold bG.size;omega)];try rfl
 rw [cJ c3,dQ (by omega),bh]
 rw [show gS (bG.size a0) a1=a1 - ((ah.size a0.aX:Nat):Int) - ((ah.size a0.bQ:Nat):Int) - ((aB.size a0.dx:Nat):Int) - ((aB.size a0.cw:Nat):Int) from by rw [cJ (by unfold bG.size;omega)];unfold bG.size;omega]
def af:cq 214 aV:=W2 30 F mix aD bp (.cons Z11.af (.cons Z12.af .nil)) Tryz.func214
end Z13
namespace Z14
def F (x0:aO)(x1:Int):aH:=(call (Z5.R (x0.aP,x1)) fun v1=>(cond (decide (v1<0)) (ret ((-1):Int)) (call (Z11.R (x0.bg,v1)) fun v2=>(cond (decide (v2<0)) (ret ((-1):Int)) (call (Z12.R (x0.cX,v2)) fun v3=>(cond (decide (v3<0)) (ret ((-1):Int)) (call (Z13.R (x0.eo,v3)) fun v4=>(cond (decide (v4<0)) (ret ((-1):Int)) (ret (v4:Int))))))))))
def md (a0:aj)(a1:Int):Int:=gS (aj.size a0) a1
def gd (a0:aj)(a1:Int):Prop:=(aj.Sm maxLen a0)/\0<=a1/\a1<=1048576
def R:=RR (p2 gd) (u2 md)
def ak {a0 a1}(h:gd a0 a1):R ((aj.r a0),a1)=some (md a0 a1):=aM (a:=(a0,a1)) h
def aV:=CN [.agg AL,pI] oI RT.dec R
def bp (a0)(a1)(hg:gd a0 a1):F (aj.r a0) a1=ret (md a0 a1):=by
 obtain ⟨hs,g0,g1⟩:=hg
 unfold md
 show (call (Z5.R ((a0.aP.map aa.row),a1)) fun v1=>(bif (decide (v1<0)) then ret ((-1):Int) else (call (Z11.R ((ah.r a0.bg),v1)) fun v2=>(bif (decide (v2<0)) then ret ((-1):Int) else (call (Z12.R ((aB.r a0.cX),v2)) fun v3=>(bif (decide (v3<0)) then ret ((-1):Int) else (call (Z13.R ((bG.r a0.eo),v3)) fun v4=>(cond (decide (v4<0)) (ret ((-1):Int)) (ret (v4:Int))))))))))=_
 rw [call_eq (Z5.ak (a1:=a1) ⟨hs.1,by omega,by omega⟩)]
 unfold Z5.md
 by_cases c0:a1<((fc (fun y:aa=>aa.size y) a0.aP:Nat):Int)
 ·rw [bZ c0];rw [show gS (aj.size a0) a1=-1 from bZ (by unfold aj.size;omega)];try rfl
 rw [cJ c0,dQ (by omega),bh]
 rw [call_eq (Z11.ak (a1:=(a1 - ((fc (fun y:aa=>aa.size y) a0.aP:Nat):Int))) ⟨hs.2.1,by omega,by omega⟩)]
 unfold Z11.md
 by_cases c1:(a1 - ((fc (fun y:aa=>aa.size y) a0.aP:Nat):Int))<((ah.size a0.bg:Nat):Int)
 ·rw [bZ c1];rw [show gS (aj.size a0) a1=-1 from bZ (by unfold aj.size;omega)];try rfl
 rw [cJ c1,dQ (by omega),bh]
 rw [call_eq (Z12.ak (a1:=(a1 - ((fc (fun y:aa=>aa.size y) a0.aP:Nat):Int) - ((ah.size a0.bg:Nat):Int))) ⟨hs.2.2.1,by omega,by omega⟩)]
 unfold Z12.md
 by_cases c2:(a1 - ((fc (fun y:aa=>aa.size y) a0.aP:Nat):Int) - ((ah.size a0.bg:Nat):Int))<((aB.size a0.cX:Nat):Int)
 ·rw [bZ c2];rw [show gS (aj.size a0) a1=-1 from bZ (by unfold aj.size;omega)];try rfl
 rw [cJ c2,dQ (by omega),bh]
 rw [call_eq (Z13.ak (a1:=(a1 - ((fc (fun y:aa=>aa.size y) a0.aP:Nat):Int) - ((ah.size a0.bg:Nat):Int) - ((aB.size a0.cX:Nat):Int))) ⟨hs.2.2.2,by omega,by omega⟩)]
 unfold Z13.md
 by_cases c3:(a1 - ((fc (fun y:aa=>aa.size y) a0.aP:Nat):Int) - ((ah.size a0.bg:Nat):Int) - ((aB.size a0.cX:Nat):Int))<((bG.size a0.eo:Nat):Int)
 ·rw [bZ c3];rw [show gS (aj.size a0) a1=-1 from bZ (by unfold aj.size;omega)];try rfl
 rw [cJ c3,dQ (by omega),bh]
 rw [show gS (aj.size a0) a1=a1 - ((fc (fun y:aa=>aa.size y) a0.aP:Nat):Int) - ((ah.size a0.bg:Nat):Int) - ((aB.size a0.cX:Nat):Int) - ((bG.size a0.eo:Nat):Int) from by rw [cJ (by unfold aj.size;omega)];unfold aj.size;omega]
def af:cq 161 aV:=W2 30 F mix aD bp (.cons Z5.af (.cons Z11.af (.cons Z12.af (.cons Z13.af .nil)))) Tryz.func161
end Z14
namespace Z15
def F (x0:bV)(x1:Int):aH:=(cond (decide ((i64.wrap (x1 - (x0.aQ.size:Int)))<0)) (ret ((-1):Int)) (call (Z14.R (x0.cC,(i64.wrap (x1 - (x0.aQ.size:Int))))) fun v1=>(cond (decide (v1<0)) (ret ((-1):Int)) (ret (v1:Int)))))
def md (a0:aC)(a1:Int):Int:=gS (aC.size a0) a1
def gd (a0:aC)(a1:Int):Prop:=(aC.Sm maxLen a0)/\0<=a1/\a1<=1048576
def R:=RR (p2 gd) (u2 md)
def ak {a0 a1}(h:gd a0 a1):R ((aC.r a0),a1)=some (md a0 a1):=aM (a:=(a0,a1)) h
def aV:=CN [.agg AY,pI] oI RT.dec R
def bp (a0)(a1)(hg:gd a0 a1):F (aC.r a0) a1=ret (md a0 a1):=by
 obtain ⟨hs,g0,g1⟩:=hg
 unfold md
 show (bif (decide ((i64.wrap (a1 - (a0.aQ.size:Int)))<0)) then ret ((-1):Int) else (call (Z14.R ((aj.r a0.cC),(i64.wrap (a1 - (a0.aQ.size:Int))))) fun v1=>(cond (decide (v1<0)) (ret ((-1):Int)) (ret (v1:Int)))))=_
 rw [me (left:=a1) (s:=a0.aQ.size) (by omega) (by omega) hs.1]
 by_cases c0:a1 - ((a0.aQ.size:Nat):Int)<0
 ·rw [decide_eq_true c0,aZ];rw [show gS (aC.size a0) a1=-1 from bZ (by unfold aC.size;omega)];try rfl
 rw [decide_eq_false c0,bh]
 rw [call_eq (Z14.ak (a1:=(a1 - ((a0.aQ.size:Nat):Int))) ⟨hs.2,by omega,by omega⟩)]
 unfold Z14.md
 by_cases c1:(a1 - ((a0.aQ.size:Nat):Int))<((aj.size a0.cC:Nat):Int)
 ·rw [bZ c1];rw [show gS (aC.size a0) a1=-1 from bZ (by unfold aC.size;omega)];try rfl
 rw [cJ c1,dQ (by omega),bh]
 rw [show gS (aC.size a0) a1=a1 - ((a0.aQ.size:Nat):Int) - ((aj.size a0.cC:Nat):Int) from by rw [cJ (by unfold aC.size;omega)];unfold aC.size;omega]
def af:cq 110 aV:=W2 19 F mix aD bp (.cons Z14.af .nil) Tryz.func110
end Z15
namespace Z16
inductive Pt where
 | p0 (a:aF) (b c:Int)
def pid:Pt->Nat
 | .p0 ..=>5
def cQ:Pt->List V
 | .p0 a b c=>[.sl none 171 a,.int .i64 b,.int .i64 c]
def cR:Pt->List aS
 | .p0 a b c=>[]
def step (J:Pt->aH):Pt->aH
 | .p0 a b c=>(cond (decide (c<(a.length:Int))) (m2 c (a.length:Int) (call (Z15.R ((bV.at a (toNat c)),b)) fun v1=>(cond (decide (v1<0)) (ret ((-1):Int)) (J (.p0 a v1 (i64.wrap (c+1))))))) (ret (b:Int)))
def start (J:Pt->aH)(x0:aF)(x1:Int):aH:=(cond (decide ((i64.wrap (x1 - (x0.length:Int)))<0)) (ret ((-1):Int)) (J (.p0 x0 (i64.wrap (x1 - (x0.length:Int))) 0)))
def live:Nat->Live:=fun i=>match i with | 5=>[(0,none),(1,none),(5,none)] | _=>[]
def md (a0:List aC)(a1:Int):Int:=gS (fc (fun y:aC=>aC.size y) a0) a1
def gd (a0:List aC)(a1:Int):Prop:=(bI maxLen (fun y:aC=>aC.Sm maxLen y) a0)/\0<=a1/\a1<=1048576
def R:=RR (p2 gd) (u2 md)
def ak {a0 a1}(h:gd a0 a1):R ((a0.map aC.row),a1)=some (md a0 a1):=aM (a:=(a0,a1)) h
def aV:=CN [pL 171,pI] oI RT.dec R
def bp (a0)(a1)(hg:gd a0 a1):∃n,start (iter step n) (a0.map aC.row) a1=ret (md a0 a1):=by
 obtain ⟨hs,g0,g1⟩:=hg
 unfold start md
 simp only [List.length_map]
 refine nV (pt:=fun left i=>Pt.p0 (a0.map aC.row) left (i:Int)) (f:=fun y:aC=>aC.size y) hs.1 (fun J i h left p0 p1=>?_) (fun J left=>?_) g0 g1
 ·simp only [step,MM,List.length_map,bM h,bE,aZ,cP,aC.ga h]
  rw [call_eq (Z15.ak ⟨hs.get h,p0,p1⟩),aJ h hs.1]
  unfold Z15.md
  by_cases hc:left<((aC.size (a0[i]):Nat):Int)
  ·rw [bZ hc,if_pos hc];rfl
  ·rw [cJ hc,if_neg hc,dQ (by omega)];rfl
 ·simp only [step,List.length_map,ff,bh]
def af:cq 48 aV:=L2 27 pid cQ cR live step start mix aD bp (.cons Z15.af .nil) Tryz.func48
end Z16
namespace Z17
def F (x0:bR)(x1:Int):aH:=(call (Z16.R (x0.aU,x1)) fun v1=>(cond (decide (v1<0)) (ret ((-1):Int)) (ret (v1:Int))))
def md (a0:aG)(a1:Int):Int:=gS (aG.size a0) a1
def gd (a0:aG)(a1:Int):Prop:=(aG.Sm maxLen a0)/\0<=a1/\a1<=1048576
def R:=RR (p2 gd) (u2 md)
def ak {a0 a1}(h:gd a0 a1):R ((aG.r a0),a1)=some (md a0 a1):=aM (a:=(a0,a1)) h
def aV:=CN [.agg BH,pI] oI RT.dec R
def bp (a0)(a1)(hg:gd a0 a1):F (aG.r a0) a1=ret (md a0 a1):=by
 obtain ⟨hs,g0,g1⟩:=hg
 unfold md
 show (call (Z16.R ((a0.aU.map aC.row),a1)) fun v1=>(cond (decide (v1<0)) (ret ((-1):Int)) (ret (v1:Int))))=_
 rw [call_eq (Z16.ak (a1:=a1) ⟨hs,by omega,by omega⟩)]
 unfold Z16.md
 by_cases c0:a1<((fc (fun y:aC=>aC.size y) a0.aU:Nat):Int)
 ·rw [bZ c0];rw [show gS (aG.size a0) a1=-1 from bZ (by unfold aG.size;omega)];try rfl
 rw [cJ c0,dQ (by omega),bh]
 rw [show gS (aG.size a0) a1=a1 - ((fc (fun y:aC=>aC.size y) a0.aU:Nat):Int) from by rw [cJ (by unfold aG.size;omega)];unfold aG.size;omega]
def af:cq 9 aV:=W2 12 F mix aD bp (.cons Z16.af .nil) Tryz.func9
end Z17
namespace Z18
inductive Pt where
 | p0 (a:aF) (b:Int) (c:aF)
def pid:Pt->Nat
 | .p0 ..=>3
def cQ:Pt->List V
 | .p0 a b c=>[.sl none 3 a,.own 0,.int .i64 b]
def cR:Pt->List aS
 | .p0 a b c=>[.row 3 c]
def step (J:Pt->aH):Pt->aH
 | .p0 a b c=>(cond (decide (b<(a.length:Int))) (m2 b (a.length:Int) (m2 b (c.length:Int) (J (.p0 a (i64.wrap (b+1)) (List.set c (toNat b) [L.int (jo a (toNat b))]))))) (ret (c:aF)))
def start (J:Pt->aH)(x0:aF):aH:=(cK (decide ((0:Int)<=(x0.length:Int))) (cK (decide ((x0.length:Int)<=(x0.length:Int))) (cK (decide ((x0.length:Int)*8<=140737488355328)) (J (.p0 x0 0 (List.replicate (toNat (x0.length:Int)) [L.int 0]))))))
def live:Nat->Live:=fun i=>match i with | 3=>[(0,none),(3,none),(4,none)] | _=>[]
def md (a0:List Int):List Int:=a0
def gd (a0:List Int):Prop:=bI (2^36) (fun y:Int=>True) a0
def R:=RR gd md
def ak {a0}(h:gd a0):R (a0.map bn)=some (a0.map bn):=aM (a:=a0) h
def aV:=CN [pL 3] (oL 3) RT.dec R
def bp (a0)(hg:gd a0):∃n,start (iter step n) (a0.map bn)=ret ((md a0).map bn):=by
 unfold start md
 simp only [List.length_map]
 refine kF (b:=8) (pt:=fun i c=>Pt.p0 (a0.map bn) (i:Int) c) (by have:=hg.1;simp at this;omega) (fun J i h c hc=>?_) (fun J c=>?_)
 ·simp only [step,MM,List.length_map,bM h,bE,aZ,cP,tD h,hc]
  rw [aJ (n:=a0.length) h (by have:=hg.1;simp only [maxLen];simp at this;omega)]
  rfl
 ·simp only [step,List.length_map,ff,bh]
def af:cq 278 aV:=L1 22 pid cQ cR live step start mix aD bp .nil Tryz.func278
end Z18
namespace Z19
def F (x0:bC):aH:=(call (Z18.R x0.aU) fun v1=>ret ((⟨v1,x0.cV⟩:bC):bC))
def md (a0:aL):aL:=a0
def gd (a0:aL):Prop:=aL.Sm (2^36) a0
def R:=RR gd md
def ak {a0}(h:gd a0):R (aL.r a0)=some (aL.r a0):=aM (a:=a0) h
def aV:=CN [.agg AA] (.agg f173) RT.dec R
def bp (a0)(hg:gd a0):F (aL.r a0)=ret (aL.r (md a0)):=by
 unfold md
 show (call (Z18.R (a0.aU.map bn)) fun v1=>ret ((⟨v1,a0.cV⟩:bC):bC))=_
 rw [call_eq (Z18.ak hg)]
 rfl
def af:cq 276 aV:=W1 12 F mix aD bp (.cons Z18.af .nil) Tryz.func276
end Z19
namespace Z20
def F (x0:bW):aH:=(call (Z19.R x0.cg) fun v1=>(call (Z19.R x0.bN) fun v2=>(call (Z19.R x0.bK) fun v3=>ret ((⟨x0.bw,x0.cG,x0.bL,x0.cE,x0.cD,x0.cB,x0.dg,x0.dN,v1,v2,x0.dy,v3,x0.bF⟩:bW):bW))))
def md (a0:aE):aE:=a0
def gd (a0:aE):Prop:=aE.Sm (2^36) a0
def R:=RR gd md
def ak {a0}(h:gd a0):R (aE.r a0)=some (aE.r a0):=aM (a:=a0) h
def aV:=CN [.agg Ba] (.agg f175) RT.dec R
def bp (a0)(hg:gd a0):F (aE.r a0)=ret (aE.r (md a0)):=by
 unfold md
 show (call (Z19.R (aL.r a0.cg)) fun v1=>(call (Z19.R (aL.r a0.bN)) fun v2=>(call (Z19.R (aL.r a0.bK)) fun v3=>ret ((⟨a0.bw,a0.cG,a0.bL,a0.cE,a0.cD,a0.cB,a0.dg,a0.dN,v1,v2,a0.dy,v3,a0.bF⟩:bW):bW))))=_
 rw [call_eq (Z19.ak hg.1)]
 rw [call_eq (Z19.ak hg.2.1)]
 rw [call_eq (Z19.ak hg.2.2)]
 rfl
def af:cq 215 aV:=W1 47 F mix aD bp (.cons Z19.af .nil) Tryz.func215
end Z20
namespace Z21
def F (x0:bz):aH:=ret (x0:bz)
def md (a0:bz):bz:=a0
def gd (a0:bz):Prop:=bz.Sm (2^36) a0
def R:=RR gd md
def ak {a0}(h:gd a0):R a0=some a0:=aM (a:=a0) h
def aV:=CN [.agg Bl] (.agg f227) RT.dec R
def bp (a0)(hg:gd a0):F a0=ret (md a0):=by
 rfl
def af:cq 277 aV:=W1 11 F mix aD bp .nil Tryz.func277
end Z21
namespace Z22
inductive Pt where
 | p0 (a:aF) (b:Int) (c:aF)
def pid:Pt->Nat
 | .p0 ..=>3
def cQ:Pt->List V
 | .p0 a b c=>[.sl none 315 a,.own 0,.int .i64 b]
def cR:Pt->List aS
 | .p0 a b c=>[.row 227 c]
def step (J:Pt->aH):Pt->aH
 | .p0 a b c=>(cond (decide (b<(a.length:Int))) (m2 b (a.length:Int) (call (Z21.R (bz.at a (toNat b))) fun v1=>(m2 b (c.length:Int) (J (.p0 a (i64.wrap (b+1)) (List.set c (toNat b) (bz.enc v1))))))) (ret (c:aF)))
def start (J:Pt->aH)(x0:aF):aH:=(cK (decide ((0:Int)<=(x0.length:Int))) (cK (decide ((x0.length:Int)<=(x0.length:Int))) (cK (decide ((x0.length:Int)*16<=140737488355328)) (J (.p0 x0 0 (List.replicate (toNat (x0.length:Int)) [L.int 0,L.int 0]))))))
def live:Nat->Live:=fun i=>match i with | 3=>[(0,none),(3,none),(4,none)] | _=>[]
def md (a0:List bz):List bz:=a0
def gd (a0:List bz):Prop:=bI (2^36) (fun y:bz=>bz.Sm (2^36) y) a0
def R:=RR gd md
def ak {a0}(h:gd a0):R (a0.map bz.row)=some (a0.map bz.row):=aM (a:=a0) h
def aV:=CN [pL 315] (oL 227) RT.dec R
def bp (a0)(hg:gd a0):∃n,start (iter step n) (a0.map bz.row)=ret ((md a0).map bz.row):=by
 unfold start md
 simp only [List.length_map]
 refine kF (b:=16) (pt:=fun i c=>Pt.p0 (a0.map bz.row) (i:Int) c) (by have:=hg.1;simp at this;omega) (fun J i h c hc=>?_) (fun J c=>?_)
 ·simp only [step,MM,List.length_map,bM h,bE,aZ,cP,bz.ga h,hc]
  rw [call_eq (Z21.ak (hg.get h))]
  try simp only [hc,bM h,aZ]
  rw [aJ (n:=a0.length) h (by have:=hg.1;simp only [maxLen];simp at this;omega)]
  rfl
 ·simp only [step,List.length_map,ff,bh]
def af:cq 216 aV:=L1 23 pid cQ cR live step start mix aD bp (.cons Z21.af .nil) Tryz.func216
end Z22
namespace Z23
def F (x0:aT):aH:=(call (Z20.R x0.ay) fun v1=>(call (Z22.R x0.cT) fun v2=>ret ((⟨v1,v2⟩:aT):aT)))
def md (a0:aa):aa:=a0
def gd (a0:aa):Prop:=aa.Sm (2^36) a0
def R:=RR gd md
def ak {a0}(h:gd a0):R (aa.r a0)=some (aa.r a0):=aM (a:=a0) h
def aV:=CN [.agg AZ] (.agg f178) RT.dec R
def bp (a0)(hg:gd a0):F (aa.r a0)=ret (aa.r (md a0)):=by
 unfold md
 show (call (Z20.R (aE.r a0.ay)) fun v1=>(call (Z22.R (a0.cT.map bz.row)) fun v2=>ret ((⟨v1,v2⟩:aT):aT)))=_
 rw [call_eq (Z20.ak hg.1)]
 rw [call_eq (Z22.ak hg.2)]
 rfl
def af:cq 162 aV:=W1 13 F mix aD bp (.cons Z20.af (.cons Z22.af .nil)) Tryz.func162
end Z23
namespace Z24
inductive Pt where
 | p0 (a:aF) (b:Int) (c:aF)
def pid:Pt->Nat
 | .p0 ..=>3
def cQ:Pt->List V
 | .p0 a b c=>[.sl none 160 a,.own 0,.int .i64 b]
def cR:Pt->List aS
 | .p0 a b c=>[.row 178 c]
def step (J:Pt->aH):Pt->aH
 | .p0 a b c=>(cond (decide (b<(a.length:Int))) (m2 b (a.length:Int) (call (Z23.R (aT.at a (toNat b))) fun v1=>(m2 b (c.length:Int) (J (.p0 a (i64.wrap (b+1)) (List.set c (toNat b) (aT.enc v1))))))) (ret (c:aF)))
def start (J:Pt->aH)(x0:aF):aH:=(cK (decide ((0:Int)<=(x0.length:Int))) (cK (decide ((x0.length:Int)<=(x0.length:Int))) (cK (decide ((x0.length:Int)*200<=140737488355328)) (J (.p0 x0 0 (List.replicate (toNat (x0.length:Int)) [L.int 0,L.int 0,L.int 0,L.int 0,L.int 0,L.int 0,L.int 0,L.int 0,L.sl [],L.int 0,L.sl [],L.int 0,L.int 0,L.sl [],L.int 0,L.bool false,L.sl []]))))))
def live:Nat->Live:=fun i=>match i with | 3=>[(0,none),(3,none),(4,none)] | _=>[]
def md (a0:List aa):List aa:=a0
def gd (a0:List aa):Prop:=bI (2^36) (fun y:aa=>aa.Sm (2^36) y) a0
def R:=RR gd md
def ak {a0}(h:gd a0):R (a0.map aa.row)=some (a0.map aa.row):=aM (a:=a0) h
def aV:=CN [pL 160] (oL 178) RT.dec R
def bp (a0)(hg:gd a0):∃n,start (iter step n) (a0.map aa.row)=ret ((md a0).map aa.row):=by
 unfold start md
 simp only [List.length_map]
 refine kF (b:=200) (pt:=fun i c=>Pt.p0 (a0.map aa.row) (i:Int) c) (by have:=hg.1;simp at this;omega) (fun J i h c hc=>?_) (fun J c=>?_)
 ·simp only [step,MM,List.length_map,bM h,bE,aZ,cP,aa.ga h,hc]
  rw [call_eq (Z23.ak (hg.get h))]
  try simp only [hc,bM h,aZ]
  rw [aJ (n:=a0.length) h (by have:=hg.1;simp only [maxLen];simp at this;omega)]
  rfl
 ·simp only [step,List.length_map,ff,bh]
def af:cq 111 aV:=L1 23 pid cQ cR live step start mix aD bp (.cons Z23.af .nil) Tryz.func111
end Z24
namespace Z25
inductive Pt where
 | p0 (a:aF) (b:Int) (c:aF)
def pid:Pt->Nat
 | .p0 ..=>3
def cQ:Pt->List V
 | .p0 a b c=>[.sl none 152 a,.own 0,.int .i64 b]
def cR:Pt->List aS
 | .p0 a b c=>[.row 120 c]
def step (J:Pt->aH):Pt->aH
 | .p0 a b c=>(cond (decide (b<(a.length:Int))) (m2 b (a.length:Int) (call (Z24.R (pX a (toNat b))) fun v1=>(m2 b (c.length:Int) (J (.p0 a (i64.wrap (b+1)) (List.set c (toNat b) [L.sl v1])))))) (ret (c:aF)))
def start (J:Pt->aH)(x0:aF):aH:=(cK (decide ((0:Int)<=(x0.length:Int))) (cK (decide ((x0.length:Int)<=(x0.length:Int))) (cK (decide ((x0.length:Int)*24<=140737488355328)) (J (.p0 x0 0 (List.replicate (toNat (x0.length:Int)) [L.sl []]))))))
def live:Nat->Live:=fun i=>match i with | 3=>[(0,none),(3,none),(4,none)] | _=>[]
def md (a0:List (List aa)):List (List aa):=a0
def gd (a0:List (List aa)):Prop:=bI (2^36) (fun y:List aa=>bI (2^36) (fun y:aa=>aa.Sm (2^36) y) y) a0
def R:=RR gd md
def ak {a0}(h:gd a0):R (a0.map (eL aa.row))=some (a0.map (eL aa.row)):=aM (a:=a0) h
def aV:=CN [pL 152] (oL 120) RT.dec R
def bp (a0)(hg:gd a0):∃n,start (iter step n) (a0.map (eL aa.row))=ret ((md a0).map (eL aa.row)):=by
 unfold start md
 simp only [List.length_map]
 refine kF (b:=24) (pt:=fun i c=>Pt.p0 (a0.map (eL aa.row)) (i:Int) c) (by have:=hg.1;simp at this;omega) (fun J i h c hc=>?_) (fun J c=>?_)
 ·simp only [step,MM,List.length_map,bM h,bE,aZ,cP,qh h,hc]
  rw [call_eq (Z24.ak (hg.get h))]
  try simp only [hc,bM h,aZ]
  rw [aJ (n:=a0.length) h (by have:=hg.1;simp only [maxLen];simp at this;omega)]
  rfl
 ·simp only [step,List.length_map,ff,bh]
def af:cq 49 aV:=L1 23 pid cQ cR live step start mix aD bp (.cons Z24.af .nil) Tryz.func49
end Z25
namespace Z26
def F (x0:cu):aH:=(call (Z23.R x0.aX) fun v1=>(call (Z23.R x0.fA) fun v2=>(call (Z23.R x0.fB) fun v3=>ret ((⟨v1,v2,v3⟩:cu):cu))))
def md (a0:aI):aI:=a0
def gd (a0:aI):Prop:=aI.Sm (2^36) a0
def R:=RR gd md
def ak {a0}(h:gd a0):R (aI.r a0)=some (aI.r a0):=aM (a:=a0) h
def aV:=CN [.agg AQ] (.agg f180) RT.dec R
def bp (a0)(hg:gd a0):F (aI.r a0)=ret (aI.r (md a0)):=by
 unfold md
 show (call (Z23.R (aa.r a0.aX)) fun v1=>(call (Z23.R (aa.r a0.fA)) fun v2=>(call (Z23.R (aa.r a0.fB)) fun v3=>ret ((⟨v1,v2,v3⟩:cu):cu))))=_
 rw [call_eq (Z23.ak hg.1)]
 rw [call_eq (Z23.ak hg.2.1)]
 rw [call_eq (Z23.ak hg.2.2)]
 rfl
def af:cq 112 aV:=W1 17 F mix aD bp (.cons Z23.af .nil) Tryz.func112
end Z26
namespace Z27
inductive Pt where
 | p0 (a:aF) (b:Int) (c:aF)
def pid:Pt->Nat
 | .p0 ..=>3
def cQ:Pt->List V
 | .p0 a b c=>[.sl none 162 a,.own 0,.int .i64 b]
def cR:Pt->List aS
 | .p0 a b c=>[.row 180 c]
def step (J:Pt->aH):Pt->aH
 | .p0 a b c=>(cond (decide (b<(a.length:Int))) (m2 b (a.length:Int) (call (Z26.R (cu.at a (toNat b))) fun v1=>(m2 b (c.length:Int) (J (.p0 a (i64.wrap (b+1)) (List.set c (toNat b) (cu.enc v1))))))) (ret (c:aF)))
def start (J:Pt->aH)(x0:aF):aH:=(cK (decide ((0:Int)<=(x0.length:Int))) (cK (decide ((x0.length:Int)<=(x0.length:Int))) (cK (decide ((x0.length:Int)*600<=140737488355328)) (J (.p0 x0 0 (List.replicate (toNat (x0.length:Int)) [L.int 0,L.int 0,L.int 0,L.int 0,L.int 0,L.int 0,L.int 0,L.int 0,L.sl [],L.int 0,L.sl [],L.int 0,L.int 0,L.sl [],L.int 0,L.bool false,L.sl [],L.int 0,L.int 0,L.int 0,L.int 0,L.int 0,L.int 0,L.int 0,L.int 0,L.sl [],L.int 0,L.sl [],L.int 0,L.int 0,L.sl [],L.int 0,L.bool false,L.sl [],L.int 0,L.int 0,L.int 0,L.int 0,L.int 0,L.int 0,L.int 0,L.int 0,L.sl [],L.int 0,L.sl [],L.int 0,L.int 0,L.sl [],L.int 0,L.bool false,L.sl []]))))))
def live:Nat->Live:=fun i=>match i with | 3=>[(0,none),(3,none),(4,none)] | _=>[]
def md (a0:List aI):List aI:=a0
def gd (a0:List aI):Prop:=bI (2^36) (fun y:aI=>aI.Sm (2^36) y) a0
def R:=RR gd md
def ak {a0}(h:gd a0):R (a0.map aI.row)=some (a0.map aI.row):=aM (a:=a0) h
def aV:=CN [pL 162] (oL 180) RT.dec R
def bp (a0)(hg:gd a0):∃n,start (iter step n) (a0.map aI.row)=ret ((md a0).map aI.row):=by
 unfold start md
 simp only [List.length_map]
 refine kF (b:=600) (pt:=fun i c=>Pt.p0 (a0.map aI.row) (i:Int) c) (by have:=hg.1;simp at this;omega) (fun J i h c hc=>?_) (fun J c=>?_)
 ·simp only [step,MM,List.length_map,bM h,bE,aZ,cP,aI.ga h,hc]
  rw [call_eq (Z26.ak (hg.get h))]
  try simp only [hc,bM h,aZ]
  rw [aJ (n:=a0.length) h (by have:=hg.1;simp only [maxLen];simp at this;omega)]
  rfl
 ·simp only [step,List.length_map,ff,bh]
def af:cq 50 aV:=L1 23 pid cQ cR live step start mix aD bp (.cons Z26.af .nil) Tryz.func50
end Z27
namespace Z28
def F (x0:bt):aH:=(call (Z25.R x0.aK) fun v1=>(call (Z27.R x0.bq) fun v2=>ret ((⟨v1,v2⟩:bt):bt)))
def md (a0:an):an:=a0
def gd (a0:an):Prop:=an.Sm (2^36) a0
def R:=RR gd md
def ak {a0}(h:gd a0):R (an.r a0)=some (an.r a0):=aM (a:=a0) h
def aV:=CN [.agg BG] (.agg f36) RT.dec R
def bp (a0)(hg:gd a0):F (an.r a0)=ret (an.r (md a0)):=by
 unfold md
 show (call (Z25.R (a0.aK.map (eL aa.row))) fun v1=>(call (Z27.R (a0.bq.map aI.row)) fun v2=>ret ((⟨v1,v2⟩:bt):bt)))=_
 rw [call_eq (Z25.ak hg.1)]
 rw [call_eq (Z27.ak hg.2)]
 rfl
def af:cq 12 aV:=W1 13 F mix aD bp (.cons Z25.af (.cons Z27.af .nil)) Tryz.func12
end Z28
namespace Z29
inductive Pt where
 | p0 (a:aF) (b:Int) (c:aF)
def pid:Pt->Nat
 | .p0 ..=>3
def cQ:Pt->List V
 | .p0 a b c=>[.sl none 9 a,.own 0,.int .i64 b]
def cR:Pt->List aS
 | .p0 a b c=>[.row 9 c]
def step (J:Pt->aH):Pt->aH
 | .p0 a b c=>(cond (decide (b<(a.length:Int))) (m2 b (a.length:Int) (m2 b (c.length:Int) (J (.p0 a (i64.wrap (b+1)) (List.set c (toNat b) [L.str (pW a (toNat b))]))))) (ret (c:aF)))
def start (J:Pt->aH)(x0:aF):aH:=(cK (decide ((0:Int)<=(x0.length:Int))) (cK (decide ((x0.length:Int)<=(x0.length:Int))) (cK (decide ((x0.length:Int)*16<=140737488355328)) (J (.p0 x0 0 (List.replicate (toNat (x0.length:Int)) [L.str ⟨#[]⟩]))))))
def live:Nat->Live:=fun i=>match i with | 3=>[(0,none),(3,none),(4,none)] | _=>[]
def md (a0:List aA):List aA:=a0
def gd (a0:List aA):Prop:=bI (2^36) (fun y:aA=>y.size<=(2^36)) a0
def R:=RR gd md
def ak {a0}(h:gd a0):R (a0.map cL)=some (a0.map cL):=aM (a:=a0) h
def aV:=CN [pL 9] (oL 9) RT.dec R
def bp (a0)(hg:gd a0):∃n,start (iter step n) (a0.map cL)=ret ((md a0).map cL):=by
 unfold start md
 simp only [List.length_map]
 refine kF (b:=16) (pt:=fun i c=>Pt.p0 (a0.map cL) (i:Int) c) (by have:=hg.1;simp at this;omega) (fun J i h c hc=>?_) (fun J c=>?_)
 ·simp only [step,MM,List.length_map,bM h,bE,aZ,cP,qe h,hc]
  rw [aJ (n:=a0.length) h (by have:=hg.1;simp only [maxLen];simp at this;omega)]
  rfl
 ·simp only [step,List.length_map,ff,bh]
def af:cq 14 aV:=L1 22 pid cQ cR live step start mix aD bp .nil Tryz.func14
end Z29
namespace Z30
def F (x0:aW):aH:=(call (Z29.R x0.bB) fun v1=>ret ((⟨x0.aQ,x0.bL,x0.bX,v1⟩:aW):aW))
def md (a0:ah):ah:=a0
def gd (a0:ah):Prop:=ah.Sm (2^36) a0
def R:=RR gd md
def ak {a0}(h:gd a0):R (ah.r a0)=some (ah.r a0):=aM (a:=a0) h
def aV:=CN [.agg Bb] (.agg f38) RT.dec R
def bp (a0)(hg:gd a0):F (ah.r a0)=ret (ah.r (md a0)):=by
 unfold md
 show (call (Z29.R (a0.bB.map cL)) fun v1=>ret ((⟨a0.aQ,a0.bL,a0.bX,v1⟩:aW):aW))=_
 rw [call_eq (Z29.ak hg.2)]
 rfl
def af:cq 217 aV:=W1 18 F mix aD bp (.cons Z29.af .nil) Tryz.func217
end Z30
namespace Z31
def F (x0:bH):aH:=(call (Z18.R x0.bB) fun v1=>ret ((⟨x0.ec,v1⟩:bH):bH))
def md (a0:aB):aB:=a0
def gd (a0:aB):Prop:=aB.Sm (2^36) a0
def R:=RR gd md
def ak {a0}(h:gd a0):R (aB.r a0)=some (aB.r a0):=aM (a:=a0) h
def aV:=CN [.agg AX] (.agg f122) RT.dec R
def bp (a0)(hg:gd a0):F (aB.r a0)=ret (aB.r (md a0)):=by
 unfold md
 show (call (Z18.R (a0.bB.map bn)) fun v1=>ret ((⟨a0.ec,v1⟩:bH):bH))=_
 rw [call_eq (Z18.ak hg)]
 rfl
def af:cq 218 aV:=W1 12 F mix aD bp (.cons Z18.af .nil) Tryz.func218
end Z31
namespace Z32
def F (x0:dm):aH:=(call (Z30.R x0.aX) fun v1=>(call (Z30.R x0.bQ) fun v2=>(call (Z31.R x0.dx) fun v3=>(call (Z31.R x0.cw) fun v4=>ret ((⟨x0.ec,v1,v2,v3,v4⟩:dm):dm)))))
def md (a0:bG):bG:=a0
def gd (a0:bG):Prop:=bG.Sm (2^36) a0
def R:=RR gd md
def ak {a0}(h:gd a0):R (bG.r a0)=some (bG.r a0):=aM (a:=a0) h
def aV:=CN [.agg AG] (.agg f124) RT.dec R
def bp (a0)(hg:gd a0):F (bG.r a0)=ret (bG.r (md a0)):=by
 unfold md
 show (call (Z30.R (ah.r a0.aX)) fun v1=>(call (Z30.R (ah.r a0.bQ)) fun v2=>(call (Z31.R (aB.r a0.dx)) fun v3=>(call (Z31.R (aB.r a0.cw)) fun v4=>ret ((⟨a0.ec,v1,v2,v3,v4⟩:dm):dm)))))=_
 rw [call_eq (Z30.ak hg.1)]
 rw [call_eq (Z30.ak hg.2.1)]
 rw [call_eq (Z31.ak hg.2.2.1)]
 rw [call_eq (Z31.ak hg.2.2.2)]
 rfl
def af:cq 219 aV:=W1 24 F mix aD bp (.cons Z30.af (.cons Z31.af .nil)) Tryz.func219
end Z32
namespace Z33
def F (x0:aO):aH:=(call (Z24.R x0.aP) fun v1=>(call (Z30.R x0.bg) fun v2=>(call (Z31.R x0.cX) fun v3=>(call (Z32.R x0.eo) fun v4=>ret ((⟨v1,x0.bS,v2,v3,v4⟩:aO):aO)))))
def md (a0:aj):aj:=a0
def gd (a0:aj):Prop:=aj.Sm (2^36) a0
def R:=RR gd md
def ak {a0}(h:gd a0):R (aj.r a0)=some (aj.r a0):=aM (a:=a0) h
def aV:=CN [.agg AL] (.agg f126) RT.dec R
def bp (a0)(hg:gd a0):F (aj.r a0)=ret (aj.r (md a0)):=by
 unfold md
 show (call (Z24.R (a0.aP.map aa.row)) fun v1=>(call (Z30.R (ah.r a0.bg)) fun v2=>(call (Z31.R (aB.r a0.cX)) fun v3=>(call (Z32.R (bG.r a0.eo)) fun v4=>ret ((⟨v1,a0.bS,v2,v3,v4⟩:aO):aO)))))=_
 rw [call_eq (Z24.ak hg.1)]
 rw [call_eq (Z30.ak hg.2.1)]
 rw [call_eq (Z31.ak hg.2.2.1)]
 rw [call_eq (Z32.ak hg.2.2.2)]
 rfl
def af:cq 163 aV:=W1 24 F mix aD bp (.cons Z24.af (.cons Z30.af (.cons Z31.af (.cons Z32.af .nil)))) Tryz.func163
end Z33
namespace Z34
def F (x0:bV):aH:=(call (Z33.R x0.cC) fun v1=>ret ((⟨x0.bw,x0.aQ,v1⟩:bV):bV))
def md (a0:aC):aC:=a0
def gd (a0:aC):Prop:=aC.Sm (2^36) a0
def R:=RR gd md
def ak {a0}(h:gd a0):R (aC.r a0)=some (aC.r a0):=aM (a:=a0) h
def aV:=CN [.agg AY] (.agg f148) RT.dec R
def bp (a0)(hg:gd a0):F (aC.r a0)=ret (aC.r (md a0)):=by
 unfold md
 show (call (Z33.R (aj.r a0.cC)) fun v1=>ret ((⟨a0.bw,a0.aQ,v1⟩:bV):bV))=_
 rw [call_eq (Z33.ak hg.2)]
 rfl
def af:cq 113 aV:=W1 15 F mix aD bp (.cons Z33.af .nil) Tryz.func113
end Z34
namespace Z35
inductive Pt where
 | p0 (a:aF) (b:Int) (c:aF)
def pid:Pt->Nat
 | .p0 ..=>3
def cQ:Pt->List V
 | .p0 a b c=>[.sl none 171 a,.own 0,.int .i64 b]
def cR:Pt->List aS
 | .p0 a b c=>[.row 148 c]
def step (J:Pt->aH):Pt->aH
 | .p0 a b c=>(cond (decide (b<(a.length:Int))) (m2 b (a.length:Int) (call (Z34.R (bV.at a (toNat b))) fun v1=>(m2 b (c.length:Int) (J (.p0 a (i64.wrap (b+1)) (List.set c (toNat b) (bV.enc v1))))))) (ret (c:aF)))
def start (J:Pt->aH)(x0:aF):aH:=(cK (decide ((0:Int)<=(x0.length:Int))) (cK (decide ((x0.length:Int)<=(x0.length:Int))) (cK (decide ((x0.length:Int)*328<=140737488355328)) (J (.p0 x0 0 (List.replicate (toNat (x0.length:Int)) [L.int 0,L.str ⟨#[]⟩,L.sl [],L.bool false,L.str ⟨#[]⟩,L.int 0,L.int 0,L.sl [],L.int 0,L.sl [],L.int 0,L.str ⟨#[]⟩,L.int 0,L.int 0,L.sl [],L.str ⟨#[]⟩,L.int 0,L.int 0,L.sl [],L.int 0,L.sl [],L.int 0,L.sl []]))))))
def live:Nat->Live:=fun i=>match i with | 3=>[(0,none),(3,none),(4,none)] | _=>[]
def md (a0:List aC):List aC:=a0
def gd (a0:List aC):Prop:=bI (2^36) (fun y:aC=>aC.Sm (2^36) y) a0
def R:=RR gd md
def ak {a0}(h:gd a0):R (a0.map aC.row)=some (a0.map aC.row):=aM (a:=a0) h
def aV:=CN [pL 171] (oL 148) RT.dec R
def bp (a0)(hg:gd a0):∃n,start (iter step n) (a0.map aC.row)=ret ((md a0).map aC.row):=by
 unfold start md
 simp only [List.length_map]
 refine kF (b:=328) (pt:=fun i c=>Pt.p0 (a0.map aC.row) (i:Int) c) (by have:=hg.1;simp at this;omega) (fun J i h c hc=>?_) (fun J c=>?_)
 ·simp only [step,MM,List.length_map,bM h,bE,aZ,cP,aC.ga h,hc]
  rw [call_eq (Z34.ak (hg.get h))]
  try simp only [hc,bM h,aZ]
  rw [aJ (n:=a0.length) h (by have:=hg.1;simp only [maxLen];simp at this;omega)]
  rfl
 ·simp only [step,List.length_map,ff,bh]
def af:cq 51 aV:=L1 23 pid cQ cR live step start mix aD bp (.cons Z34.af .nil) Tryz.func51
end Z35
namespace Z36
def F (x0:bR):aH:=(call (Z35.R x0.aU) fun v1=>ret ((⟨v1⟩:bR):bR))
def md (a0:aG):aG:=a0
def gd (a0:aG):Prop:=aG.Sm (2^36) a0
def R:=RR gd md
def ak {a0}(h:gd a0):R (aG.r a0)=some (aG.r a0):=aM (a:=a0) h
def aV:=CN [.agg BH] (.agg f46) RT.dec R
def bp (a0)(hg:gd a0):F (aG.r a0)=ret (aG.r (md a0)):=by
 unfold md
 show (call (Z35.R (a0.aU.map aC.row)) fun v1=>ret ((⟨v1⟩:bR):bR))=_
 rw [call_eq (Z35.ak hg)]
 rfl
def af:cq 13 aV:=W1 9 F mix aD bp (.cons Z35.af .nil) Tryz.func13
end Z36
namespace Z37
def F (x0:bC):aH:=(cK (eO ((x0.aU.length:Int)*8)) (ret (x0:bC)))
def md (a0:aL):aL:=a0
def gd (a0:aL):Prop:=(aL.Sm (2^21) a0)
def R:=RR gd md
def ak {a0}(h:gd a0):R (aL.r a0)=some (aL.r a0):=aM (a:=a0) h
def aV:=CN [.agg iT] (.agg f173) RT.dec R
def bp (a0)(hg:gd a0):F (aL.r a0)=ret (aL.r (md a0)):=by
 unfold gd at hg
 have H0:=hg
 unfold F md
 try simp only [SS]
 refine aN (have:=(H0).1;lm) ?_
 all_goals exact fz
def af:cq 235 aV:=W1 10 F mix aD bp .nil Tryz.func235
end Z37
namespace Z38
def F (x0:bW):aH:=(call (Z37.R x0.cg) fun v1=>(call (Z37.R x0.bN) fun v2=>(call (Z37.R x0.bK) fun v3=>ret ((⟨x0.bw,x0.cG,x0.bL,x0.cE,x0.cD,x0.cB,x0.dg,x0.dN,v1,v2,x0.dy,v3,x0.bF⟩:bW):bW))))
def md (a0:aE):aE:=a0
def gd (a0:aE):Prop:=(aE.Sm (2^21) a0)
def R:=RR gd md
def ak {a0}(h:gd a0):R (aE.r a0)=some (aE.r a0):=aM (a:=a0) h
def aV:=CN [.agg fV] (.agg f175) RT.dec R
def bp (a0)(hg:gd a0):F (aE.r a0)=ret (aE.r (md a0)):=by
 unfold gd at hg
 have H0:=hg
 unfold F md
 try simp only [SS]
 refine ct (Z37.ak H0.1) ?_
 try simp only [SS]
 refine ct (Z37.ak H0.2.1) ?_
 try simp only [SS]
 refine ct (Z37.ak H0.2.2) ?_
 try simp only [SS]
 all_goals exact fz
def af:cq 179 aV:=W1 18 F mix aD bp (.cons Z37.af .nil) Tryz.func179
end Z38
namespace Z39
def F (x0:aT):aH:=(call (Z38.R x0.ay) fun v1=>(cK (eO ((x0.cT.length:Int)*16)) (ret ((⟨v1,x0.cT⟩:aT):aT))))
def md (a0:aa):aa:=a0
def gd (a0:aa):Prop:=(aa.Sm (2^21) a0)
def R:=RR gd md
def ak {a0}(h:gd a0):R (aa.r a0)=some (aa.r a0):=aM (a:=a0) h
def aV:=CN [.agg kB] (.agg f178) RT.dec R
def bp (a0)(hg:gd a0):F (aa.r a0)=ret (aa.r (md a0)):=by
 unfold gd at hg
 have H0:=hg
 unfold F md
 try simp only [SS]
 refine ct (Z38.ak H0.1) ?_
 try simp only [SS]
 refine aN (have:=(H0.2).1;lm) ?_
 all_goals exact fz
def af:cq 173 aV:=W1 11 F mix aD bp (.cons Z38.af .nil) Tryz.func173
end Z39
namespace Z40
inductive Pt where
 | p0 (a:aF) (b:Int) (c:aF)
def pid:Pt->Nat
 | .p0 ..=>3
def cQ:Pt->List V
 | .p0 a b c=>[.sl none 178 a,.own 0,.int .i64 b]
def cR:Pt->List aS
 | .p0 a b c=>[.row 178 c]
def step (J:Pt->aH):Pt->aH
 | .p0 a b c=>(cond (decide (b<(a.length:Int))) (m2 b (a.length:Int) (call (Z39.R (aT.at a (toNat b))) fun v1=>(cK (eO (((c.length:Int)+1)*200)) (J (.p0 a (i64.wrap (b+1)) (c++[(aT.enc v1)])))))) (ret (c:aF)))
def start (J:Pt->aH)(x0:aF):aH:=J (.p0 x0 0 [])
def live:Nat->Live:=fun i=>match i with | 3=>[(0,none),(3,some 178),(4,none)] | _=>[]
def md (a0:List aa):List aa:=a0
def gd (a0:List aa):Prop:=(bI (2^21) (fun y:aa=>aa.Sm (2^21) y) a0)
def R:=RR gd md
def ak {a0}(h:gd a0):R (a0.map aa.row)=some (a0.map aa.row):=aM (a:=a0) h
def aV:=CN [pL 178] (oL 178) RT.dec R
def bp (a0)(hg:gd a0):∃n,start (iter step n) (a0.map aa.row)=ret ((md a0).map aa.row):=by
 unfold gd at hg
 have H0:=hg
 unfold start md
 try simp only [SS]
 have Bh2:a0.length<=maxLen:=(by
   have:=(H0).1
   try simp only [maxLen] at *
   omega)
 refine ex_eq (out:=(fun b:List aa=>ret ((b.map aa.row):aF))) (gu (xs:=a0) (z:=aa.zero) (t:=fun s3:List aa=>s3)) ?_
 refine dG (p:=Pt.p0 (a0.map aa.row) 0 ([].map aa.row)) fz ?_
 refine bU (pt:=fun (i1:Nat) (s3:List aa)=>Pt.p0 (a0.map aa.row) (i1:Int) (s3.map aa.row)) (s:=([]:List aa)) (out:=(fun b:List aa=>ret ((b.map aa.row):aF))) (fun (i1:Nat) (s3:List aa)=>s3.length<=([]:List Int).length+1*i1) (fun J i1 s3 h2 hih2=>?_) (fun s3 hih2=>?_) (by simp)
 ·simp only [step,SS]
  have gr_:=hih2
  try simp only [LN] at gr_
  have bb_:=Bh2
  simp only [maxLen] at bb_
  have:=(H0).1
  refine bk.yes (by apply decide_eq_true;omega) ?_
  refine bk.yes bE ?_
  refine bk.yes (bM h2) ?_
  refine cr (Z39.ak (bI.getD (z:=aa.zero) H0 h2)) ?_
  try simp only [SS]
  refine bk.yes lm ?_
  refine bk.inl (by
    have g_:=hih2
    try simp only [LN] at g_ ⊢
    first | omega | (simp;done) | (simp;omega)) ?_
  rw [aJ h2 Bh2]
  all_goals exact fz
 ·simp only [step,SS]
  have gr_:=hih2
  try simp only [LN] at gr_
  have:=(H0).1
  refine cY (by apply decide_eq_false;omega) ?_
  refine ⟨0,?_⟩
  all_goals exact fz
def af:cq 132 aV:=L1 21 pid cQ cR live step start mix aD bp (.cons Z39.af .nil) Tryz.func132
end Z40
namespace Z41
def F (x0:cu):aH:=(call (Z39.R x0.aX) fun v1=>(call (Z39.R x0.fA) fun v2=>(call (Z39.R x0.fB) fun v3=>ret ((⟨v1,v2,v3⟩:cu):cu))))
def md (a0:aI):aI:=a0
def gd (a0:aI):Prop:=(aI.Sm (2^21) a0)
def R:=RR gd md
def ak {a0}(h:gd a0):R (aI.r a0)=some (aI.r a0):=aM (a:=a0) h
def aV:=CN [.agg tI] (.agg f180) RT.dec R
def bp (a0)(hg:gd a0):F (aI.r a0)=ret (aI.r (md a0)):=by
 unfold gd at hg
 have H0:=hg
 unfold F md
 try simp only [SS]
 refine ct (Z39.ak H0.1) ?_
 try simp only [SS]
 refine ct (Z39.ak H0.2.1) ?_
 try simp only [SS]
 refine ct (Z39.ak H0.2.2) ?_
 try simp only [SS]
 all_goals exact fz
def af:cq 133 aV:=W1 13 F mix aD bp (.cons Z39.af .nil) Tryz.func133
end Z41
namespace Z42
inductive Pt where
 | p0 (a:Int) (b:bt) (c:aF)
 | p1 (a:Int) (b:bt) (c d:aF)
def pid:Pt->Nat
 | .p0 ..=>3
 | .p1 ..=>7
def cQ:Pt->List V
 | .p0 a b c=>[.cj 0 0,.cj 1 0,.cj 2 0,.int .i64 a,.cj 2 0]
 | .p1 a b c d=>[.cj 0 0,.cj 1 0,.cj 2 0,.int .i64 a,.cj 2 0,.cj 2 0]
def cR:Pt->List aS
 | .p0 a b c=>[.box [.sl none 120 b.aK,.sl none 180 b.bq],.box [.nil,.nil],.box [.own 3,.nil],.row 120 c]
 | .p1 a b c d=>[.box [.sl none 120 b.aK,.sl none 180 b.bq],.box [.nil,.nil],.box [.own 3,.own 4],.row 120 c,.row 180 d]
def step (J:Pt->aH):Pt->aH
 | .p0 a b c=>(cond (decide (a<(b.aK.length:Int))) (m2 a (b.aK.length:Int) (call (Z40.R (pX b.aK (toNat a))) fun v1=>(cK (eO (((c.length:Int)+1)*24)) (J (.p0 (i64.wrap (a+1)) b (c++[[L.sl v1]])))))) (J (.p1 0 b c [])))
 | .p1 a b c d=>(cond (decide (a<(b.bq.length:Int))) (m2 a (b.bq.length:Int) (call (Z41.R (cu.at b.bq (toNat a))) fun v1=>(cK (eO (((d.length:Int)+1)*600)) (J (.p1 (i64.wrap (a+1)) b c (d++[(cu.enc v1)])))))) (ret ((⟨c,d⟩:bt):bt)))
def start (J:Pt->aH)(x0:bt):aH:=J (.p0 0 x0 [])
def live:Nat->Live:=fun i=>match i with | 3=>[(1,none),(2,none),(3,none),(4,none),(3,some 120)] | 7=>[(1,none),(2,none),(3,none),(5,none),(3,some 120),(3,some 1048756)] | _=>[]
def md (a0:an):an:=a0
def gd (a0:an):Prop:=(an.Sm (2^21) a0)
def R:=RR gd md
def ak {a0}(h:gd a0):R (an.r a0)=some (an.r a0):=aM (a:=a0) h
def aV:=CN [.agg tO] (.agg f36) RT.dec R
def bp (a0)(hg:gd a0):∃n,start (iter step n) (an.r a0)=ret (an.r (md a0)):=by
 unfold gd at hg
 have H0:=hg
 unfold start md
 try simp only [SS]
 have Bh2:a0.aK.length<=maxLen:=(by
   have:=(H0.1).1
   try simp only [maxLen] at *
   omega)
 refine ex_eq (out:=(fun b:an=>ret ((an.r b):bt))) (gu (xs:=a0.aK) (z:=[]) (t:=fun s3:List (List aa)=>(⟨s3,a0.bq⟩:an))) ?_
 refine dG (p:=Pt.p0 0 (an.r a0) ([].map (eL aa.row))) fz ?_
 refine bU (pt:=fun (i1:Nat) (s3:List (List aa))=>Pt.p0 (i1:Int) (an.r a0) (s3.map (eL aa.row))) (s:=([]:List (List aa))) (out:=(fun b:an=>ret ((an.r b):bt))) (fun (i1:Nat) (s3:List (List aa))=>s3.length<=([]:List Int).length+1*i1) (fun J i1 s3 h2 hih2=>?_) (fun s3 hih2=>?_) (by simp)
 ·simp only [step,SS]
  have gr_:=hih2
  try simp only [LN] at gr_
  have bb_:=Bh2
  simp only [maxLen] at bb_
  have:=(H0.1).1
  refine bk.yes (by apply decide_eq_true;omega) ?_
  refine bk.yes bE ?_
  refine bk.yes (bM h2) ?_
  refine cr (Z40.ak (bI.getD (z:=[]) H0.1 h2)) ?_
  try simp only [SS]
  refine bk.yes lm ?_
  refine bk.inl (by
    have g_:=hih2
    try simp only [LN] at g_ ⊢
    first | omega | (simp;done) | (simp;omega)) ?_
  rw [aJ h2 Bh2]
  all_goals exact fz
 ·simp only [step,SS]
  have gr_:=hih2
  try simp only [LN] at gr_
  have:=(H0.1).1
  refine cY (by apply decide_eq_false;omega) ?_
  have Bh5:a0.bq.length<=maxLen:=(by
    have:=(H0.2).1
    try simp only [maxLen] at *
    omega)
  refine ex_eq (out:=(fun b:an=>ret ((an.r b):bt))) (gu (xs:=a0.bq) (z:=aI.zero) (t:=fun s6:List aI=>(⟨s3,s6⟩:an))) ?_
  refine dG (p:=Pt.p1 0 (an.r a0) (s3.map (eL aa.row)) ([].map aI.row)) fz ?_
  refine bU (pt:=fun (i4:Nat) (s6:List aI)=>Pt.p1 (i4:Int) (an.r a0) (s3.map (eL aa.row)) (s6.map aI.row)) (s:=([]:List aI)) (out:=(fun b:an=>ret ((an.r b):bt))) (fun (i4:Nat) (s6:List aI)=>s6.length<=([]:List Int).length+1*i4) (fun J i4 s6 h5 hih5=>?_) (fun s6 hih5=>?_) (by simp)
  ·simp only [step,SS]
   have gr_:=hih5
   try simp only [LN] at gr_
   have bb_:=Bh5
   simp only [maxLen] at bb_
   have:=(H0.2).1
   refine bk.yes (by apply decide_eq_true;omega) ?_
   refine bk.yes bE ?_
   refine bk.yes (bM h5) ?_
   refine cr (Z41.ak (bI.getD (z:=aI.zero) H0.2 h5)) ?_
   try simp only [SS]
   refine bk.yes lm ?_
   refine bk.inl (by
     have g_:=hih5
     try simp only [LN] at g_ ⊢
     first | omega | (simp;done) | (simp;omega)) ?_
   rw [aJ h5 Bh5]
   all_goals exact fz
  ·simp only [step,SS]
   have gr_:=hih5
   try simp only [LN] at gr_
   have:=(H0.2).1
   refine cY (by apply decide_eq_false;omega) ?_
   refine ⟨0,?_⟩
   all_goals exact fz
def af:cq 83 aV:=L1 44 pid cQ cR live step start mix aD bp (.cons Z40.af (.cons Z41.af .nil)) Tryz.func83
end Z42
namespace Z43
def F (x0:aF):aH:=(cK (eO ((x0.length:Int)*16)) (ret (x0:aF)))
def md (a0:List aA):List aA:=a0
def gd (a0:List aA):Prop:=(bI (2^21) (fun y:aA=>y.size<=(2^21)) a0)
def R:=RR gd md
def ak {a0}(h:gd a0):R (a0.map cL)=some (a0.map cL):=aM (a:=a0) h
def aV:=CN [pL 9] (oL 9) RT.dec R
def bp (a0)(hg:gd a0):F (a0.map cL)=ret ((md a0).map cL):=by
 unfold gd at hg
 have H0:=hg
 unfold F md
 try simp only [SS]
 refine aN (have:=(H0).1;lm) ?_
 all_goals exact fz
def af:cq 86 aV:=W1 6 F mix aD bp .nil Tryz.func86
end Z43
namespace Z44
def F (x0:aW):aH:=(call (Z43.R x0.bB) fun v1=>ret ((⟨x0.aQ,x0.bL,x0.bX,v1⟩:aW):aW))
def md (a0:ah):ah:=a0
def gd (a0:ah):Prop:=(ah.Sm (2^21) a0)
def R:=RR gd md
def ak {a0}(h:gd a0):R (ah.r a0)=some (ah.r a0):=aM (a:=a0) h
def aV:=CN [.agg sX] (.agg f38) RT.dec R
def bp (a0)(hg:gd a0):F (ah.r a0)=ret (ah.r (md a0)):=by
 unfold gd at hg
 have H0:=hg
 unfold F md
 try simp only [SS]
 refine ct (Z43.ak H0.2) ?_
 try simp only [SS]
 all_goals exact fz
def af:cq 140 aV:=W1 13 F mix aD bp (.cons Z43.af .nil) Tryz.func140
end Z44
namespace Z45
def F (x0:bH):aH:=(cK (eO ((x0.bB.length:Int)*8)) (ret (x0:bH)))
def md (a0:aB):aB:=a0
def gd (a0:aB):Prop:=(aB.Sm (2^21) a0)
def R:=RR gd md
def ak {a0}(h:gd a0):R (aB.r a0)=some (aB.r a0):=aM (a:=a0) h
def aV:=CN [.agg oo] (.agg f122) RT.dec R
def bp (a0)(hg:gd a0):F (aB.r a0)=ret (aB.r (md a0)):=by
 unfold gd at hg
 have H0:=hg
 unfold F md
 try simp only [SS]
 refine aN (have:=(H0).1;lm) ?_
 all_goals exact fz
def af:cq 174 aV:=W1 10 F mix aD bp .nil Tryz.func174
end Z45
namespace Z46
def F (x0:dm):aH:=(call (Z44.R x0.aX) fun v1=>(call (Z44.R x0.bQ) fun v2=>(call (Z45.R x0.dx) fun v3=>(call (Z45.R x0.cw) fun v4=>ret ((⟨x0.ec,v1,v2,v3,v4⟩:dm):dm)))))
def md (a0:bG):bG:=a0
def gd (a0:bG):Prop:=(bG.Sm (2^21) a0)
def R:=RR gd md
def ak {a0}(h:gd a0):R (bG.r a0)=some (bG.r a0):=aM (a:=a0) h
def aV:=CN [.agg ql] (.agg f124) RT.dec R
def bp (a0)(hg:gd a0):F (bG.r a0)=ret (bG.r (md a0)):=by
 unfold gd at hg
 have H0:=hg
 unfold F md
 try simp only [SS]
 refine ct (Z44.ak H0.1) ?_
 try simp only [SS]
 refine ct (Z44.ak H0.2.1) ?_
 try simp only [SS]
 refine ct (Z45.ak H0.2.2.1) ?_
 try simp only [SS]
 refine ct (Z45.ak H0.2.2.2) ?_
 try simp only [SS]
 all_goals exact fz
def af:cq 175 aV:=W1 18 F mix aD bp (.cons Z44.af (.cons Z45.af .nil)) Tryz.func175
end Z46
namespace Z47
def F (x0:aO):aH:=(call (Z40.R x0.aP) fun v1=>(call (Z44.R x0.bg) fun v2=>(call (Z45.R x0.cX) fun v3=>(call (Z46.R x0.eo) fun v4=>ret ((⟨v1,x0.bS,v2,v3,v4⟩:aO):aO)))))
def md (a0:aj):aj:=a0
def gd (a0:aj):Prop:=(aj.Sm (2^21) a0)
def R:=RR gd md
def ak {a0}(h:gd a0):R (aj.r a0)=some (aj.r a0):=aM (a:=a0) h
def aV:=CN [.agg qJ] (.agg f126) RT.dec R
def bp (a0)(hg:gd a0):F (aj.r a0)=ret (aj.r (md a0)):=by
 unfold gd at hg
 have H0:=hg
 unfold F md
 try simp only [SS]
 refine ct (Z40.ak H0.1) ?_
 try simp only [SS]
 refine ct (Z44.ak H0.2.1) ?_
 try simp only [SS]
 refine ct (Z45.ak H0.2.2.1) ?_
 try simp only [SS]
 refine ct (Z46.ak H0.2.2.2) ?_
 try simp only [SS]
 all_goals exact fz
def af:cq 134 aV:=W1 18 F mix aD bp (.cons Z40.af (.cons Z44.af (.cons Z45.af (.cons Z46.af .nil)))) Tryz.func134
end Z47
namespace Z48
inductive Pt where
 | p0 (a:Int) (b:bR) (c:aF)
def pid:Pt->Nat
 | .p0 ..=>3
def cQ:Pt->List V
 | .p0 a b c=>[.cj 0 0,.cj 1 0,.cj 2 0,.int .i64 a,.cj 2 0]
def cR:Pt->List aS
 | .p0 a b c=>[.box [.sl none 148 b.aU],.box [.nil],.box [.own 3],.row 148 c]
def step (J:Pt->aH):Pt->aH
 | .p0 a b c=>(cond (decide (a<(b.aU.length:Int))) (m2 a (b.aU.length:Int) (m2 a (b.aU.length:Int) (m2 a (b.aU.length:Int) (call (Z47.R ((bV.at b.aU (toNat a)).cC)) fun v1=>(cK (eO (((c.length:Int)+1)*328)) (J (.p0 (i64.wrap (a+1)) b (c++[(bV.enc (⟨(bV.at b.aU (toNat a)).bw,(bV.at b.aU (toNat a)).aQ,v1⟩:bV))])))))))) (ret ((⟨c⟩:bR):bR)))
def start (J:Pt->aH)(x0:bR):aH:=J (.p0 0 x0 [])
def live:Nat->Live:=fun i=>match i with | 3=>[(1,none),(2,none),(3,none),(4,none),(3,some 148)] | _=>[]
def md (a0:aG):aG:=a0
def gd (a0:aG):Prop:=(aG.Sm (2^21) a0)
def R:=RR gd md
def ak {a0}(h:gd a0):R (aG.r a0)=some (aG.r a0):=aM (a:=a0) h
def aV:=CN [.agg vH] (.agg f46) RT.dec R
def bp (a0)(hg:gd a0):∃n,start (iter step n) (aG.r a0)=ret (aG.r (md a0)):=by
 unfold gd at hg
 have H0:=hg
 unfold start md
 try simp only [SS]
 have Bh2:a0.aU.length<=maxLen:=(by
   have:=(H0).1
   try simp only [maxLen] at *
   omega)
 refine ex_eq (out:=(fun b:aG=>ret ((aG.r b):bR))) (gu (xs:=a0.aU) (z:=aC.zero) (t:=fun s3:List aC=>(⟨s3⟩:aG))) ?_
 refine dG (p:=Pt.p0 0 (aG.r a0) ([].map aC.row)) fz ?_
 refine bU (pt:=fun (i1:Nat) (s3:List aC)=>Pt.p0 (i1:Int) (aG.r a0) (s3.map aC.row)) (s:=([]:List aC)) (out:=(fun b:aG=>ret ((aG.r b):bR))) (fun (i1:Nat) (s3:List aC)=>s3.length<=([]:List Int).length+1*i1) (fun J i1 s3 h2 hih2=>?_) (fun s3 hih2=>?_) (by simp)
 ·simp only [step,SS]
  have gr_:=hih2
  try simp only [LN] at gr_
  have bb_:=Bh2
  simp only [maxLen] at bb_
  have:=(H0).1
  refine bk.yes (by apply decide_eq_true;omega) ?_
  refine bk.yes bE ?_
  refine bk.yes (bM h2) ?_
  refine bk.yes bE ?_
  refine bk.yes (bM h2) ?_
  refine bk.yes bE ?_
  refine bk.yes (bM h2) ?_
  refine cr (Z47.ak (bI.getD (z:=aC.zero) H0 h2).2) ?_
  try simp only [SS]
  refine bk.yes lm ?_
  refine bk.inl (by
    have g_:=hih2
    try simp only [LN] at g_ ⊢
    first | omega | (simp;done) | (simp;omega)) ?_
  rw [aJ h2 Bh2]
  all_goals exact fz
 ·simp only [step,SS]
  have gr_:=hih2
  try simp only [LN] at gr_
  have:=(H0).1
  refine cY (by apply decide_eq_false;omega) ?_
  refine ⟨0,?_⟩
  all_goals exact fz
def af:cq 84 aV:=L1 39 pid cQ cR live step start mix aD bp (.cons Z47.af .nil) Tryz.func84
end Z48
namespace Z49
def F (x0 x1 x2:Int):aH:=(cond (decide (x0>=x1)) (ret ((decide (x0<=x2)):Bool)) bf)
def md (a0 a1 a2:Int):Bool:=(cond (decide (a0>=a1)) ((decide (a0<=a2)):Bool) (false:Bool))
def gd (a0 a1 a2:Int):Prop:=True
def R:=RR (p3 gd) (u3 md)
def ak {a0 a1 a2}(h:gd a0 a1 a2):R (a0,a1,a2)=some (md a0 a1 a2):=aM (a:=(a0,a1,a2)) h
def aV:=CN [pI,pI,pI] oB RT.dec R
def bp (a0)(a1)(a2)(hg:gd a0 a1 a2):F a0 a1 a2=ret (md a0 a1 a2):=by
 unfold F md
 try simp only [SS]
 refine aq ret (fun c1=>?_) (fun _=>rfl)
 all_goals exact fz
def af:cq 124 aV:=W3 15 F mix aD bp .nil Tryz.func124
end Z49
namespace Z50
inductive Pt where
 | p0 (a:aA) (b:Int)
def pid:Pt->Nat
 | .p0 ..=>4
def cQ:Pt->List V
 | .p0 a b=>[.str a,.int .i64 b]
def cR:Pt->List aS
 | .p0 a b=>[]
def step (J:Pt->aH):Pt->aH
 | .p0 a b=>(cond (decide (b<(a.size:Int))) (m2 b (a.size:Int) (cond (decide ((eC a (toNat b))<97)) (m2 b (a.size:Int) (cond (decide ((eC a (toNat b))<48)) (m2 b (a.size:Int) (cond ((eC a (toNat b)) != 45) bf (J (.p0 a (i64.wrap (b+1)))))) (m2 b (a.size:Int) (cond (decide ((eC a (toNat b))>57)) (m2 b (a.size:Int) (cond ((eC a (toNat b)) != 45) bf (J (.p0 a (i64.wrap (b+1)))))) (J (.p0 a (i64.wrap (b+1)))))))) (m2 b (a.size:Int) (cond (decide ((eC a (toNat b))>122)) (m2 b (a.size:Int) (cond (decide ((eC a (toNat b))<48)) (m2 b (a.size:Int) (cond ((eC a (toNat b)) != 45) bf (J (.p0 a (i64.wrap (b+1)))))) (m2 b (a.size:Int) (cond (decide ((eC a (toNat b))>57)) (m2 b (a.size:Int) (cond ((eC a (toNat b)) != 45) bf (J (.p0 a (i64.wrap (b+1)))))) (J (.p0 a (i64.wrap (b+1)))))))) (J (.p0 a (i64.wrap (b+1)))))))) eG)
def start (J:Pt->aH)(x0:aA):aH:=(call (Z49.R ((x0.size:Int),1,8)) fun v1=>(cond (!v1) bf (cK (decide ((0:Int)<(x0.size:Int))) (cond ((eC x0 0)==45) bf (cK (decide ((0:Int)<=(i64.wrap ((x0.size:Int) - 1)))) (cK (decide ((i64.wrap ((x0.size:Int) - 1))<(x0.size:Int))) (cond ((eC x0 (toNat (i64.wrap ((x0.size:Int) - 1))))==45) bf (J (.p0 x0 0)))))))))
def live:Nat->Live:=fun i=>match i with | 4=>[(0,none),(3,none)] | _=>[]
def md (a0:aA):Bool:=(bif (!(Z49.md (a0.size:Int) 1 8)) then (false:Bool) else (bif ((eC a0 0)==45) then (false:Bool) else (bif ((eC a0 (toNat (i64.wrap ((a0.size:Int) - 1))))==45) then (false:Bool) else (eD (S:=Unit) (β:=Bool) (fun (i4:Nat) (s6:Unit)=>(cond (decide ((eC a0 i4)<97)) (cond (decide ((eC a0 i4)<48)) (cond ((eC a0 i4) != 45) (.inr (false:Bool)) (.inl ())) (cond (decide ((eC a0 i4)>57)) (cond ((eC a0 i4) != 45) (.inr (false:Bool)) (.inl ())) (.inl ()))) (cond (decide ((eC a0 i4)>122)) (cond (decide ((eC a0 i4)<48)) (cond ((eC a0 i4) != 45) (.inr (false:Bool)) (.inl ())) (cond (decide ((eC a0 i4)>57)) (cond ((eC a0 i4) != 45) (.inr (false:Bool)) (.inl ())) (.inl ()))) (.inl ())))) (fun (s6:Unit)=>(true:Bool)) a0.size 0 ()))))
def gd (a0:aA):Prop:=(a0.size<=(2^22))
def R:=RR gd md
def ak {a0}(h:gd a0):R a0=some (md a0):=aM (a:=a0) h
def aV:=CN [pS] oB RT.dec R
def bp (a0)(hg:gd a0):∃n,start (iter step n) a0=ret (md a0):=by
 unfold gd at hg
 have H0:=hg
 unfold start md
 try simp only [SS]
 refine cx (Z49.ak trivial) ?_
 refine gP ret (fun _=>⟨0,rfl⟩) (fun c1=>?_)
 have dc1:=c1
 try simp only [DC] at dc1
 have Dc1:=c1
 try simp [Z49.md] at Dc1
 refine dw (have:=H0;dt) ?_
 refine gP ret (fun _=>⟨0,rfl⟩) (fun c2=>?_)
 have dc2:=c2
 try simp only [DC] at dc2
 refine dw (have:=H0;dt) ?_
 refine dw (have:=H0;dt) ?_
 refine gP ret (fun _=>⟨0,rfl⟩) (fun c3=>?_)
 have dc3:=c3
 try simp only [DC] at dc3
 have Bh5:a0.size<=maxLen:=(by
   have:=H0
   try simp only [maxLen] at *
   omega)
 refine dG (p:=Pt.p0 a0 0) fz ?_
 refine bU (pt:=fun (i4:Nat) (s6:Unit)=>Pt.p0 a0 (i4:Int)) (s:=(():Unit)) (out:=ret) (fun _ _=>True) (fun J i4 s6 h5 hih5=>?_) (fun s6 hih5=>?_) trivial
 ·simp only [step,SS]
  have bb_:=Bh5
  simp only [maxLen] at bb_
  have:=H0
  refine bk.yes (by apply decide_eq_true;omega) ?_
  refine bk.yes bE ?_
  refine bk.yes (bM h5) ?_
  refine bk.bif (fun c7=>?_) (fun c7=>?_)
  ·refine bk.yes bE ?_
   refine bk.yes (bM h5) ?_
   refine bk.bif (fun c8=>?_) (fun c8=>?_)
   ·refine bk.yes bE ?_
    refine bk.yes (bM h5) ?_
    refine bk.bif (fun _=>bk.inr rfl) (fun c9=>?_)
    refine bk.inl trivial ?_
    rw [aJ h5 Bh5]
    all_goals exact fz
   ·refine bk.yes bE ?_
    refine bk.yes (bM h5) ?_
    refine bk.bif (fun c10=>?_) (fun c10=>?_)
    ·refine bk.yes bE ?_
     refine bk.yes (bM h5) ?_
     refine bk.bif (fun _=>bk.inr rfl) (fun c11=>?_)
     refine bk.inl trivial ?_
     rw [aJ h5 Bh5]
     all_goals exact fz
    ·refine bk.inl trivial ?_
     rw [aJ h5 Bh5]
     all_goals exact fz
  ·refine bk.yes bE ?_
   refine bk.yes (bM h5) ?_
   refine bk.bif (fun c12=>?_) (fun c12=>?_)
   ·refine bk.yes bE ?_
    refine bk.yes (bM h5) ?_
    refine bk.bif (fun c13=>?_) (fun c13=>?_)
    ·refine bk.yes bE ?_
     refine bk.yes (bM h5) ?_
     refine bk.bif (fun _=>bk.inr rfl) (fun c14=>?_)
     refine bk.inl trivial ?_
     rw [aJ h5 Bh5]
     all_goals exact fz
    ·refine bk.yes bE ?_
     refine bk.yes (bM h5) ?_
     refine bk.bif (fun c15=>?_) (fun c15=>?_)
     ·refine bk.yes bE ?_
      refine bk.yes (bM h5) ?_
      refine bk.bif (fun _=>bk.inr rfl) (fun c16=>?_)
      refine bk.inl trivial ?_
      rw [aJ h5 Bh5]
      all_goals exact fz
     ·refine bk.inl trivial ?_
      rw [aJ h5 Bh5]
      all_goals exact fz
   ·refine bk.inl trivial ?_
    rw [aJ h5 Bh5]
    all_goals exact fz
 ·simp only [step,SS]
  have:=H0
  refine cY (by apply decide_eq_false;omega) ?_
  refine ⟨0,?_⟩
  all_goals exact fz
def af:cq 122 aV:=L1 55 pid cQ cR live step start mix aD bp (.cons Z49.af .nil) Tryz.func122
def tr {a0:aA}(h:md a0=true):1<=a0.size/\a0.size<=8:=by
 unfold md at h
 cases e:Z49.md (a0.size:Int) 1 8
 ·rw [e] at h;cases h
 ·simp [Z49.md] at e;omega
end Z50
namespace Z51
inductive Pt where
 | p0 (a:aF) (b:Int)
def pid:Pt->Nat
 | .p0 ..=>2
def cQ:Pt->List V
 | .p0 a b=>[.sl none 9 a,.int .i64 b]
def cR:Pt->List aS
 | .p0 a b=>[]
def step (J:Pt->aH):Pt->aH
 | .p0 a b=>(cond (decide (b<(a.length:Int))) (m2 b (a.length:Int) (call (Z50.R (pW a (toNat b))) fun v1=>(cond (!v1) bf (J (.p0 a (i64.wrap (b+1))))))) (call (Z49.R ((a.length:Int),1,4)) fun v2=>ret (v2:Bool)))
def start (J:Pt->aH)(x0:aF):aH:=J (.p0 x0 0)
def live:Nat->Live:=fun i=>match i with | 2=>[(0,none),(3,none)] | _=>[]
def md (a0:List aA):Bool:=(dV (S:=Unit) (β:=Bool) (fun (y1:aA) (s3:Unit)=>(cond (!(Z50.md y1)) (.inr (false:Bool)) (.inl ()))) (fun (s3:Unit)=>((Z49.md (a0.length:Int) 1 4):Bool)) a0 ())
def gd (a0:List aA):Prop:=(bI (2^22) (fun y:aA=>y.size<=(2^22)) a0)
def R:=RR gd md
def ak {a0}(h:gd a0):R (a0.map cL)=some (md a0):=aM (a:=a0) h
def aV:=CN [pL 9] oB RT.dec R
def bp (a0)(hg:gd a0):∃n,start (iter step n) (a0.map cL)=ret (md a0):=by
 unfold gd at hg
 have H0:=hg
 unfold start md
 try simp only [SS]
 have Bh2:a0.length<=maxLen:=(by
   have:=(H0).1
   try simp only [maxLen] at *
   omega)
 refine ex_eq (out:=ret) (eJ (z:=⟨#[]⟩)) ?_
 refine dG (p:=Pt.p0 (a0.map cL) 0) fz ?_
 refine bU (pt:=fun (i1:Nat) (s3:Unit)=>Pt.p0 (a0.map cL) (i1:Int)) (s:=(():Unit)) (out:=ret) (fun _ _=>True) (fun J i1 s3 h2 hih2=>?_) (fun s3 hih2=>?_) trivial
 ·simp only [step,SS]
  have bb_:=Bh2
  simp only [maxLen] at bb_
  have:=(H0).1
  refine bk.yes (by apply decide_eq_true;omega) ?_
  refine bk.yes bE ?_
  refine bk.yes (bM h2) ?_
  refine cr (Z50.ak (bI.getD (z:=⟨#[]⟩) H0 h2)) ?_
  refine bk.bif (fun _=>bk.inr rfl) (fun c4=>?_)
  refine bk.inl trivial ?_
  rw [aJ h2 Bh2]
  all_goals exact fz
 ·simp only [step,SS]
  have:=(H0).1
  refine cY (by apply decide_eq_false;omega) ?_
  refine cx (Z49.ak trivial) ?_
  refine ⟨0,?_⟩
  all_goals exact fz
def af:cq 85 aV:=L1 19 pid cQ cR live step start mix aD bp (.cons Z50.af (.cons Z49.af .nil)) Tryz.func85
def tr {a0:List aA}(h:md a0=true):(1<=a0.length/\a0.length<=4)/\∀x∈a0,x.size<=8:=by
 have e:=mo (p:=fun y=>!(Z50.md y)) (b:=false) (c:=Z49.md (a0.length:Int) 1 4) (xs:=a0) (s:=())
 rw [show md a0=_ from e] at h
 cases ha:a0.any (fun y=>!(Z50.md y))<;>rw [ha] at h
 ·have h2:Z49.md (a0.length:Int) 1 4=true:=h
  simp [Z49.md] at h2
  refine ⟨by omega,fun x hx=>?_⟩
  rw [List.any_eq_false] at ha
  have:=ha x hx
  exact (Z50.tr (by simpa using this)).2
 ·cases h
def tl {x:aA}{xs:List aA}(h:md (x::xs)=true)(hx:¬xs.length=0):md xs=true:=by
 have key:∀a:List aA,md a=bif a.any (fun y=>!(Z50.md y)) then false else Z49.md (a.length:Int) 1 4:=fun a=>mo (p:=fun y=>!(Z50.md y)) (b:=false) (c:=Z49.md (a.length:Int) 1 4) (xs:=a) (s:=())
 have t:=tr h
 simp only [List.length_cons] at t
 rw [key] at h ⊢
 rw [List.any_cons] at h
 cases h1:xs.any (fun y=>!(Z50.md y)) with
 | true=>rw [h1,Bool.or_true] at h;cases h
 | false=>simp [Z49.md];omega
end Z51
namespace Z52
inductive Pt where
 | p0 (a:Int) (b:aA) (c:Int) (d:bR)
def pid:Pt->Nat
 | .p0 ..=>2
def cQ:Pt->List V
 | .p0 a b c d=>[.int .i64 a,.str b,.cj 0 0,.int .i64 c]
def cR:Pt->List aS
 | .p0 a b c d=>[.box [.sl none 148 d.aU]]
def step (J:Pt->aH):Pt->aH
 | .p0 a b c d=>(cond (decide (c<(d.aU.length:Int))) (m2 c (d.aU.length:Int) (cond ((bV.at d.aU (toNat c)).bw==a) (m2 c (d.aU.length:Int) (cond ((bV.at d.aU (toNat c)).aQ==b) (ret (c:Int)) (J (.p0 a b (i64.wrap (c+1)) d)))) (J (.p0 a b (i64.wrap (c+1)) d)))) (ret ((-1):Int)))
def start (J:Pt->aH)(x0:bR)(x1:Int)(x2:aA):aH:=J (.p0 x1 x2 0 x0)
def live:Nat->Live:=fun i=>match i with | 2=>[(1,none),(2,none),(3,none),(7,none)] | _=>[]
def md (a0:aG)(a1:Int)(a2:aA):Int:=(dF (S:=Unit) (β:=Int) (fun (i1:Nat) (y1:aC) (s3:Unit)=>(cond (y1.bw==a1) (cond (y1.aQ==a2) (.inr ((i1:Int):Int)) (.inl ())) (.inl ()))) (fun (s3:Unit)=>((-1):Int)) 0 a0.aU ())
def gd (a0:aG)(a1:Int)(a2:aA):Prop:=(aG.Sm (2^21) a0)
def R:=RR (p3 gd) (u3 md)
def ak {a0 a1 a2}(h:gd a0 a1 a2):R ((aG.r a0),a1,a2)=some (md a0 a1 a2):=aM (a:=(a0,a1,a2)) h
def aV:=CN [.agg vH,pI,pS] oI RT.dec R
def bp (a0)(a1)(a2)(hg:gd a0 a1 a2):∃n,start (iter step n) (aG.r a0) a1 a2=ret (md a0 a1 a2):=by
 unfold gd at hg
 have H0:=hg
 unfold start md
 try simp only [SS]
 have Bh2:a0.aU.length<=maxLen:=(by
   have:=(H0).1
   try simp only [maxLen] at *
   omega)
 refine ex_eq (out:=ret) (cH (z:=aC.zero)) ?_
 refine dG (p:=Pt.p0 a1 a2 0 (aG.r a0)) fz ?_
 refine bU (pt:=fun (i1:Nat) (s3:Unit)=>Pt.p0 a1 a2 (i1:Int) (aG.r a0)) (s:=(():Unit)) (out:=ret) (fun _ _=>True) (fun J i1 s3 h2 hih2=>?_) (fun s3 hih2=>?_) trivial
 ·simp only [step,SS]
  have bb_:=Bh2
  simp only [maxLen] at bb_
  have:=(H0).1
  refine bk.yes (by apply decide_eq_true;omega) ?_
  refine bk.yes bE ?_
  refine bk.yes (bM h2) ?_
  refine bk.bif (fun c4=>?_) (fun c4=>?_)
  ·refine bk.yes bE ?_
   refine bk.yes (bM h2) ?_
   refine bk.bif (fun c5=>?_) (fun c5=>?_)
   ·refine bk.inr ?_
    all_goals exact fz
   ·refine bk.inl trivial ?_
    rw [aJ h2 Bh2]
    all_goals exact fz
  ·refine bk.inl trivial ?_
   rw [aJ h2 Bh2]
   all_goals exact fz
 ·simp only [step,SS]
  have:=(H0).1
  refine cY (by apply decide_eq_false;omega) ?_
  refine ⟨0,?_⟩
  all_goals exact fz
def af:cq 135 aV:=L3 34 pid cQ cR live step start mix aD bp .nil Tryz.func135
def fa (a0:aG)(a1:Int)(a2:aA):-1<=md a0 a1 a2/\md a0 a1 a2<(a0.aU.length:Int):=by
 unfold md
 refine fF ?_ _ _
 all_goals
  intro i x s b h
  revert h
  simp only [Bool.cond_eq_ite]
  repeat' split
  all_goals (intro h;first | (cases h;rfl) | cases h)
end Z52
namespace Z53
def F (x0:bR)(x1:Int)(x2:aA):aH:=(call (Z52.R (x0,x1,x2)) fun v1=>(cond (decide (v1<0)) (ret ((⟨[],false,(⟨(⟨#[]⟩:aA),0,0,[]⟩:aW),(⟨0,[]⟩:bH),(⟨0,(⟨(⟨#[]⟩:aA),0,0,[]⟩:aW),(⟨(⟨#[]⟩:aA),0,0,[]⟩:aW),(⟨0,[]⟩:bH),(⟨0,[]⟩:bH)⟩:dm)⟩:aO):aO)) (m2 v1 (x0.aU.length:Int) (call (Z47.R ((bV.at x0.aU (toNat v1)).cC)) fun v2=>ret (v2:aO)))))
def md (a0:aG)(a1:Int)(a2:aA):aj:=(cond (decide ((Z52.md a0 a1 a2)<0)) (⟨[],false,(⟨((⟨#[]⟩:aA):aA),0,0,[]⟩:ah),(⟨0,[]⟩:aB),(⟨0,(⟨((⟨#[]⟩:aA):aA),0,0,[]⟩:ah),(⟨((⟨#[]⟩:aA):aA),0,0,[]⟩:ah),(⟨0,[]⟩:aB),(⟨0,[]⟩:aB)⟩:bG)⟩:aj) ((a0.aU.getD (toNat (Z52.md a0 a1 a2)) aC.zero).cC))
def gd (a0:aG)(a1:Int)(a2:aA):Prop:=(aG.Sm (2^21) a0)
def R:=RR (p3 gd) (u3 md)
def ak {a0 a1 a2}(h:gd a0 a1 a2):R ((aG.r a0),a1,a2)=some (aj.r (md a0 a1 a2)):=aM (a:=(a0,a1,a2)) h
def aV:=CN [.agg vH,pI,pS] (.agg f126) RT.dec R
def bp (a0)(a1)(a2)(hg:gd a0 a1 a2):F (aG.r a0) a1 a2=ret (aj.r (md a0 a1 a2)):=by
 unfold gd at hg
 have H0:=hg
 unfold F md
 try simp only [SS]
 refine ct (Z52.ak H0) ?_
 have fv1_:=Z52.fa a0 a1 a2
 refine aq (fun b:aj=>ret ((aj.r b):aO)) (fun c1=>?_) (fun c1=>?_)
 ·all_goals exact fz
 ·have dc1:=c1
  try simp only [DC] at dc1
  refine aN dt ?_
  refine aN (have:=(H0).1;dt) ?_
  refine ct (Z47.ak (bI.getD (z:=aC.zero) H0 (by first | assumption | omega | (simp (disch:=omega) only [wi];omega) | (simp;omega))).2) ?_
  try simp only [SS]
  all_goals exact fz
def af:cq 87 aV:=W3 22 F mix aD bp (.cons Z52.af (.cons Z47.af .nil)) Tryz.func87
def gk {a0:aG}{a1:Int}{a2:aA}(hg:gd a0 a1 a2):aj.Sm (2^21) (md a0 a1 a2):=by
 unfold gd at hg;unfold md
 have hf:=Z52.fa a0 a1 a2
 cases h:decide (Z52.md a0 a1 a2<0)
 ·simp only [decide_eq_false_iff_not] at h
  exact (bI.getD hg (by omega)).2
 ·exact ⟨bI.nil,⟨(zero_le _),bI.nil⟩,bI.nil,⟨⟨(zero_le _),bI.nil⟩,⟨(zero_le _),bI.nil⟩,bI.nil,bI.nil⟩⟩
end Z53
namespace Z54
inductive Pt where
 | p0 (a:Int) (b:bC)
def pid:Pt->Nat
 | .p0 ..=>2
def cQ:Pt->List V
 | .p0 a b=>[.cj 0 0,.int .i64 a]
def cR:Pt->List aS
 | .p0 a b=>[.box [.sl none 3 b.aU,.int .i64 b.cV]]
def step (J:Pt->aH):Pt->aH
 | .p0 a b=>(cond (decide (a<(b.aU.length:Int))) (m2 a (b.aU.length:Int) (call (Z49.R ((jo b.aU (toNat a)),1,99)) fun v1=>(cond (!v1) bf (cond (decide (a>0)) (cK (decide ((0:Int)<=(i64.wrap (a - 1)))) (cK (decide ((i64.wrap (a - 1))<(b.aU.length:Int))) (m2 a (b.aU.length:Int) (cond (decide ((jo b.aU (toNat (i64.wrap (a - 1))))>=(jo b.aU (toNat a)))) bf (J (.p0 (i64.wrap (a+1)) b)))))) (J (.p0 (i64.wrap (a+1)) b)))))) (call (Z49.R ((b.aU.length:Int),1,4)) fun v2=>(cond v2 (call (Z49.R (b.cV,1,(b.aU.length:Int))) fun v3=>ret (v3:Bool)) bf)))
def start (J:Pt->aH)(x0:bC):aH:=J (.p0 0 x0)
def live:Nat->Live:=fun i=>match i with | 2=>[(1,none),(3,none)] | _=>[]
def md (a0:aL):Bool:=(dF (S:=Unit) (β:=Bool) (fun (i1:Nat) (y1:Int) (s3:Unit)=>(cond (!(Z49.md y1 1 99)) (.inr (false:Bool)) (cond (decide ((i1:Int)>0)) (cond (decide ((a0.aU.getD (toNat (i64.wrap ((i1:Int) - 1))) 0)>=y1)) (.inr (false:Bool)) (.inl ())) (.inl ())))) (fun (s3:Unit)=>(cond (Z49.md (a0.aU.length:Int) 1 4) ((Z49.md a0.cV 1 (a0.aU.length:Int)):Bool) (false:Bool))) 0 a0.aU ())
def gd (a0:aL):Prop:=(aL.Sm (2^21) a0)
def R:=RR gd md
def ak {a0}(h:gd a0):R (aL.r a0)=some (md a0):=aM (a:=a0) h
def aV:=CN [.agg iT] oB RT.dec R
def bp (a0)(hg:gd a0):∃n,start (iter step n) (aL.r a0)=ret (md a0):=by
 unfold gd at hg
 have H0:=hg
 unfold start md
 try simp only [SS]
 have Bh2:a0.aU.length<=maxLen:=(by
   have:=(H0).1
   try simp only [maxLen] at *
   omega)
 refine ex_eq (out:=ret) (cH (z:=0)) ?_
 refine dG (p:=Pt.p0 0 (aL.r a0)) fz ?_
 refine bU (pt:=fun (i1:Nat) (s3:Unit)=>Pt.p0 (i1:Int) (aL.r a0)) (s:=(():Unit)) (out:=ret) (fun _ _=>True) (fun J i1 s3 h2 hih2=>?_) (fun s3 hih2=>?_) trivial
 ·simp only [step,SS]
  have bb_:=Bh2
  simp only [maxLen] at bb_
  have:=(H0).1
  refine bk.yes (by apply decide_eq_true;omega) ?_
  refine bk.yes bE ?_
  refine bk.yes (bM h2) ?_
  refine cr (Z49.ak trivial) ?_
  refine bk.bif (fun _=>bk.inr rfl) (fun c4=>?_)
  have dc4:=c4
  try simp only [DC] at dc4
  have Dc4:=c4
  try simp [Z49.md] at Dc4
  refine bk.bif (fun c5=>?_) (fun c5=>?_)
  ·have dc5:=c5
   try simp only [DC] at dc5
   refine bk.yes dt ?_
   refine bk.yes (have:=(H0).1;dt) ?_
   refine bk.yes bE ?_
   refine bk.yes (bM h2) ?_
   refine bk.bif (fun _=>bk.inr rfl) (fun c6=>?_)
   refine bk.inl trivial ?_
   rw [aJ h2 Bh2]
   all_goals exact fz
  ·refine bk.inl trivial ?_
   rw [aJ h2 Bh2]
   all_goals exact fz
 ·simp only [step,SS]
  have:=(H0).1
  refine cY (by apply decide_eq_false;omega) ?_
  refine cx (Z49.ak trivial) ?_
  refine gP ret (fun c7=>?_) (fun _=>⟨0,rfl⟩)
  refine cx (Z49.ak trivial) ?_
  refine ⟨0,?_⟩
  all_goals exact fz
def af:cq 352 aV:=L1 48 pid cQ cR live step start mix aD bp (.cons Z49.af .nil) Tryz.func352
def tr {a0:aL}(h:md a0=true):1<=a0.aU.length/\a0.aU.length<=4:=by
 refine Classical.byContradiction fun hc=>?_
 have e1:Z49.md (a0.aU.length:Int) 1 4=false:=by simp [Z49.md];omega
 unfold md at h
 rw [e1] at h
 have e2:∀s:Unit,(cond false (Z49.md a0.cV 1 (a0.aU.length:Int)) false)=false:=fun _=>rfl
 have h3:=kX (c:=false) (f:=fun (i1:Nat) (y1:Int) (s3:Unit)=>(cond (!(Z49.md y1 1 99)) (.inr (false:Bool)) (cond (decide ((i1:Int)>0)) (cond (decide ((a0.aU.getD (toNat (i64.wrap ((i1:Int) - 1))) 0)>=y1)) (.inr (false:Bool)) (.inl ())) (.inl ())))) (by
  intro i x s b h
  revert h
  simp only [Bool.cond_eq_ite]
  repeat' split
  all_goals (intro h;first | (cases h;rfl) | cases h)) a0.aU 0 ()
 simp only [bh] at h
 rw [h3] at h
 cases h
end Z54
namespace Z55
def F (x0:bC):aH:=(cond (x0.cV==0) (ret (((x0.aU.length:Int)==0):Bool)) bf)
def md (a0:aL):Bool:=(cond (a0.cV==0) (((a0.aU.length:Int)==0):Bool) (false:Bool))
def gd (a0:aL):Prop:=True
def R:=RR gd md
def ak {a0}(h:gd a0):R (aL.r a0)=some (md a0):=aM (a:=a0) h
def aV:=CN [.agg iT] oB RT.dec R
def bp (a0)(hg:gd a0):F (aL.r a0)=ret (md a0):=by
 unfold F md
 try simp only [SS]
 refine aq ret (fun c1=>?_) (fun _=>rfl)
 all_goals exact fz
def af:cq 353 aV:=W1 12 F mix aD bp .nil Tryz.func353
end Z55
namespace Z56
def F (x0:bW):aH:=(call (Z49.R (x0.bw,0,2147483646)) fun v1=>(cond (!v1) bf (call (Z49.R (x0.dg,0,2147483646)) fun v2=>(cond (!v2) bf (call (Z49.R (x0.dN,0,2147483646)) fun v3=>(cond (!v3) bf (call (Z49.R (x0.cG,0,200)) fun v4=>(cond (!v4) bf (call (Z49.R (x0.bL,1,3)) fun v5=>(cond (!v5) bf (call (Z49.R (x0.cE,0,100000)) fun v6=>(cond (!v6) bf (call (Z49.R (x0.cD,x0.cE,100000)) fun v7=>(cond (!v7) bf (cond (decide ((i64.wrap (x0.cD - x0.cE))>200)) bf (call (Z49.R (x0.cB,0,12)) fun v8=>(cond (!v8) bf (call (Z54.R x0.cg) fun v9=>(cond (!v9) bf (call (Z55.R x0.bN) fun v10=>(cond v10 (cond (x0.dy != 0) bf (call (Z54.R x0.bK) fun v11=>(cond v11 eG (call (Z55.R x0.bK) fun v12=>(cond v12 (ret ((!x0.bF):Bool)) bf))))) (call (Z54.R x0.bN) fun v13=>(cond (!v13) bf (call (Z49.R (x0.dy,1,500)) fun v14=>(cond (!v14) bf (call (Z54.R x0.bK) fun v15=>(cond v15 eG (call (Z55.R x0.bK) fun v16=>(cond v16 (ret ((!x0.bF):Bool)) bf)))))))))))))))))))))))))))))
def md (a0:aE):Bool:=(cond (!(Z49.md a0.bw 0 2147483646)) (false:Bool) (cond (!(Z49.md a0.dg 0 2147483646)) (false:Bool) (cond (!(Z49.md a0.dN 0 2147483646)) (false:Bool) (cond (!(Z49.md a0.cG 0 200)) (false:Bool) (cond (!(Z49.md a0.bL 1 3)) (false:Bool) (cond (!(Z49.md a0.cE 0 100000)) (false:Bool) (cond (!(Z49.md a0.cD a0.cE 100000)) (false:Bool) (cond (decide ((i64.wrap (a0.cD - a0.cE))>200)) (false:Bool) (cond (!(Z49.md a0.cB 0 12)) (false:Bool) (cond (!(Z54.md a0.cg)) (false:Bool) (cond (Z55.md a0.bN) (cond (a0.dy != 0) (false:Bool) (cond (Z54.md a0.bK) (true:Bool) (cond (Z55.md a0.bK) ((!a0.bF):Bool) (false:Bool)))) (cond (!(Z54.md a0.bN)) (false:Bool) (cond (!(Z49.md a0.dy 1 500)) (false:Bool) (cond (Z54.md a0.bK) (true:Bool) (cond (Z55.md a0.bK) ((!a0.bF):Bool) (false:Bool))))))))))))))))
def gd (a0:aE):Prop:=(aE.Sm (2^21) a0)
def R:=RR gd md
def ak {a0}(h:gd a0):R (aE.r a0)=some (md a0):=aM (a:=a0) h
def aV:=CN [.agg fV] oB RT.dec R
def bp (a0)(hg:gd a0):F (aE.r a0)=ret (md a0):=by
 unfold gd at hg
 have H0:=hg
 unfold F md
 try simp only [SS]
 refine ct (Z49.ak trivial) ?_
 refine aq ret (fun _=>rfl) (fun c1=>?_)
 refine ct (Z49.ak trivial) ?_
 refine aq ret (fun _=>rfl) (fun c2=>?_)
 refine ct (Z49.ak trivial) ?_
 refine aq ret (fun _=>rfl) (fun c3=>?_)
 refine ct (Z49.ak trivial) ?_
 refine aq ret (fun _=>rfl) (fun c4=>?_)
 refine ct (Z49.ak trivial) ?_
 refine aq ret (fun _=>rfl) (fun c5=>?_)
 refine ct (Z49.ak trivial) ?_
 refine aq ret (fun _=>rfl) (fun c6=>?_)
 refine ct (Z49.ak trivial) ?_
 refine aq ret (fun _=>rfl) (fun c7=>?_)
 refine aq ret (fun _=>rfl) (fun c8=>?_)
 refine ct (Z49.ak trivial) ?_
 refine aq ret (fun _=>rfl) (fun c9=>?_)
 refine ct (Z54.ak H0.1) ?_
 refine aq ret (fun _=>rfl) (fun c10=>?_)
 refine ct (Z55.ak trivial) ?_
 refine aq ret (fun c11=>?_) (fun c11=>?_)
 ·refine aq ret (fun _=>rfl) (fun c12=>?_)
  refine ct (Z54.ak H0.2.2) ?_
  refine aq ret (fun _=>rfl) (fun c13=>?_)
  refine ct (Z55.ak trivial) ?_
  refine aq ret (fun c14=>?_) (fun _=>rfl)
  all_goals exact fz
 ·refine ct (Z54.ak H0.2.1) ?_
  refine aq ret (fun _=>rfl) (fun c15=>?_)
  refine ct (Z49.ak trivial) ?_
  refine aq ret (fun _=>rfl) (fun c16=>?_)
  refine ct (Z54.ak H0.2.2) ?_
  refine aq ret (fun _=>rfl) (fun c17=>?_)
  refine ct (Z55.ak trivial) ?_
  refine aq ret (fun c18=>?_) (fun _=>rfl)
  all_goals exact fz
def af:cq 329 aV:=W1 92 F mix aD bp (.cons Z49.af (.cons Z54.af (.cons Z55.af .nil))) Tryz.func329
def tr {a0:aE}(h:md a0=true):(1<=a0.bL/\a0.bL<=3)/\0<=a0.cE/\a0.cE<=a0.cD/\a0.cD<=100000/\0<=a0.cB/\a0.cB<=12:=by
 have key:∀x y z:Int,Z49.md x y z=true->y<=x/\x<=z:=fun x y z h=>by simpa [Z49.md] using h
 unfold md at h
 simp only [Bz,Bool.not_not,Bool.and_eq_true] at h
 obtain ⟨_,_,_,_,h5,h6,h7,_,h8,_⟩:=h
 have:=key _ _ _ h5
 have:=key _ _ _ h6
 have:=key _ _ _ h7
 have:=key _ _ _ h8
 omega
end Z56
namespace Z57
def F (x0:bC):aH:=(cK (eO (((2:Int)+(x0.aU.length:Int))*8)) (ret (([[L.int x0.cV],[L.int (x0.aU.length:Int)]]++x0.aU):aF)))
def md (a0:aL):List Int:=([a0.cV,(a0.aU.length:Int)]++a0.aU)
def gd (a0:aL):Prop:=(aL.Sm (2^21) a0)
def R:=RR gd md
def ak {a0}(h:gd a0):R (aL.r a0)=some ((md a0).map bn):=aM (a:=a0) h
def aV:=CN [.agg iT] (oL 3) RT.dec R
def bp (a0)(hg:gd a0):F (aL.r a0)=ret ((md a0).map bn):=by
 unfold gd at hg
 have H0:=hg
 unfold F md
 try simp only [SS]
 refine aN (have:=(H0).1;lm) ?_
 all_goals exact fz
def af:cq 333 aV:=W1 12 F mix aD bp .nil Tryz.func333
def len (a0:aL):(md a0).length=2+a0.aU.length:=by simp [md];omega
end Z57
namespace Z58
def F (x0 x1:Int):aH:=(call (Z49.R (x1,1,1000000000000)) fun v1=>(cond (!v1) (ret (0:Int)) (cond (decide (x1=0)) none (cond (decide (x1=0)) none (ret ((Int.tmod (i64.wrap ((Int.tmod x0 x1)+x1)) x1):Int))))))
def md (a0 a1:Int):Int:=(cond (!(Z49.md a1 1 1000000000000)) (0:Int) ((Int.tmod (i64.wrap ((Int.tmod a0 a1)+a1)) a1):Int))
def gd (a0 a1:Int):Prop:=True
def R:=RR (p2 gd) (u2 md)
def ak {a0 a1}(h:gd a0 a1):R (a0,a1)=some (md a0 a1):=aM (a:=(a0,a1)) h
def aV:=CN [pI,pI] oI RT.dec R
def bp (a0)(a1)(hg:gd a0 a1):F a0 a1=ret (md a0 a1):=by
 unfold F md
 try simp only [SS]
 refine ct (Z49.ak trivial) ?_
 refine aq ret (fun _=>rfl) (fun c1=>?_)
 have dc1:=c1
 try simp only [DC] at dc1
 have Dc1:=c1
 try simp [Z49.md] at Dc1
 refine eE df ?_
 refine eE df ?_
 all_goals exact fz
def af:cq 342 aV:=W2 15 F mix aD bp (.cons Z49.af .nil) Tryz.func342
end Z58
namespace Z59
inductive Pt where
 | p0 (a:aF) (b c:Int)
def pid:Pt->Nat
 | .p0 ..=>3
def cQ:Pt->List V
 | .p0 a b c=>[.sl none 3 a,.int .i64 b,.int .i64 c]
def cR:Pt->List aS
 | .p0 a b c=>[]
def step (J:Pt->aH):Pt->aH
 | .p0 a b c=>(cond (decide (c<(a.length:Int))) (m2 c (a.length:Int) (call (Z58.R ((jo a (toNat c)),2147483647)) fun v1=>J (.p0 a (Int.tmod (i64.wrap ((i64.wrap ((i64.wrap (b*1000003))+v1))+13)) 2147483647) (i64.wrap (c+1))))) (ret (b:Int)))
def start (J:Pt->aH)(x0:aF):aH:=J (.p0 x0 11 0)
def live:Nat->Live:=fun i=>match i with | 3=>[(0,none),(3,none),(4,none)] | _=>[]
def md (a0:List Int):Int:=(dV (S:=Int) (β:=Int) (fun (y1:Int) (s3:Int)=>(.inl (Int.tmod (i64.wrap ((i64.wrap ((i64.wrap (s3*1000003))+(Z58.md y1 2147483647)))+13)) 2147483647))) (fun (s3:Int)=>(s3:Int)) a0 11)
def gd (a0:List Int):Prop:=(bI (2^43) (fun y:Int=>True) a0)
def R:=RR gd md
def ak {a0}(h:gd a0):R (a0.map bn)=some (md a0):=aM (a:=a0) h
def aV:=CN [pL 3] oI RT.dec R
def bp (a0)(hg:gd a0):∃n,start (iter step n) (a0.map bn)=ret (md a0):=by
 unfold gd at hg
 have H0:=hg
 unfold start md
 try simp only [SS]
 have Bh2:a0.length<=maxLen:=(by
   have:=(H0).1
   try simp only [maxLen] at *
   omega)
 refine ex_eq (out:=ret) (eJ (z:=0)) ?_
 refine dG (p:=Pt.p0 (a0.map bn) 11 0) fz ?_
 refine bU (pt:=fun (i1:Nat) (s3:Int)=>Pt.p0 (a0.map bn) s3 (i1:Int)) (s:=(11:Int)) (out:=ret) (fun _ _=>True) (fun J i1 s3 h2 hih2=>?_) (fun s3 hih2=>?_) trivial
 ·simp only [step,SS]
  have bb_:=Bh2
  simp only [maxLen] at bb_
  have:=(H0).1
  refine bk.yes (by apply decide_eq_true;omega) ?_
  refine bk.yes bE ?_
  refine bk.yes (bM h2) ?_
  refine cr (Z58.ak trivial) ?_
  refine bk.inl trivial ?_
  rw [aJ h2 Bh2]
  all_goals exact fz
 ·simp only [step,SS]
  have:=(H0).1
  refine cY (by apply decide_eq_false;omega) ?_
  refine ⟨0,?_⟩
  all_goals exact fz
def af:cq 311 aV:=L1 22 pid cQ cR live step start mix aD bp (.cons Z58.af .nil) Tryz.func311
end Z59
namespace Z60
def F (x0:bC)(x1:Int):aH:=(call (Z57.R x0) fun v1=>(cK (eO (((2:Int)+(v1.length:Int))*8)) (call (Z59.R ([[L.int 239],[L.int x1]]++v1)) fun v2=>ret (v2:Int))))
def md (a0:aL)(a1:Int):Int:=((Z59.md ([239,a1]++(Z57.md a0))):Int)
def gd (a0:aL)(a1:Int):Prop:=(aL.Sm (2^21) a0)
def R:=RR (p2 gd) (u2 md)
def ak {a0 a1}(h:gd a0 a1):R ((aL.r a0),a1)=some (md a0 a1):=aM (a:=(a0,a1)) h
def aV:=CN [.agg iT,pI] oI RT.dec R
def bp (a0)(a1)(hg:gd a0 a1):F (aL.r a0) a1=ret (md a0 a1):=by
 unfold gd at hg
 have H0:=hg
 unfold F md
 try simp only [SS]
 refine ct (Z57.ak H0) ?_
 try simp only [SS]
 refine aN (have:=Z57.len a0;have:=(H0).1;lm) ?_
 refine cF (Z59.md ([239,a1]++(Z57.md a0))) (rq (Z59.ak (a0:=([239,a1]++(Z57.md a0))) ⟨(have:=Z57.len a0;have:=(H0).1;om),fun _ _=>trivial⟩)) ?_
 all_goals exact fz
def af:cq 330 aV:=W2 11 F mix aD bp (.cons Z57.af (.cons Z59.af .nil)) Tryz.func330
end Z60
namespace Z61
def F (x0:bW):aH:=(call (Z57.R x0.cg) fun v1=>(cK (eO (((8:Int)+(v1.length:Int))*8)) (call (Z57.R x0.bN) fun v2=>(cK (eO (((([[L.int x0.bw],[L.int x0.cG],[L.int x0.bL],[L.int x0.cE],[L.int x0.cD],[L.int x0.cB],[L.int x0.dg],[L.int x0.dN]]++v1).length:Int)+(v2.length:Int))*8)) (cK (eO ((((([[L.int x0.bw],[L.int x0.cG],[L.int x0.bL],[L.int x0.cE],[L.int x0.cD],[L.int x0.cB],[L.int x0.dg],[L.int x0.dN]]++v1)++v2).length:Int)+1)*8)) (call (Z57.R x0.bK) fun v3=>(cK (eO (((((([[L.int x0.bw],[L.int x0.cG],[L.int x0.bL],[L.int x0.cE],[L.int x0.cD],[L.int x0.cB],[L.int x0.dg],[L.int x0.dN]]++v1)++v2)++[[L.int x0.dy]]).length:Int)+(v3.length:Int))*8)) (cond x0.bF (cK (eO ((((((([[L.int x0.bw],[L.int x0.cG],[L.int x0.bL],[L.int x0.cE],[L.int x0.cD],[L.int x0.cB],[L.int x0.dg],[L.int x0.dN]]++v1)++v2)++[[L.int x0.dy]])++v3).length:Int)+1)*8)) (ret (((((([[L.int x0.bw],[L.int x0.cG],[L.int x0.bL],[L.int x0.cE],[L.int x0.cD],[L.int x0.cB],[L.int x0.dg],[L.int x0.dN]]++v1)++v2)++[[L.int x0.dy]])++v3)++[[L.int 1]]):aF))) (cK (eO ((((((([[L.int x0.bw],[L.int x0.cG],[L.int x0.bL],[L.int x0.cE],[L.int x0.cD],[L.int x0.cB],[L.int x0.dg],[L.int x0.dN]]++v1)++v2)++[[L.int x0.dy]])++v3).length:Int)+1)*8)) (ret (((((([[L.int x0.bw],[L.int x0.cG],[L.int x0.bL],[L.int x0.cE],[L.int x0.cD],[L.int x0.cB],[L.int x0.dg],[L.int x0.dN]]++v1)++v2)++[[L.int x0.dy]])++v3)++[[L.int 0]]):aF)))))))))))
def md (a0:aE):List Int:=(cond a0.bF ((((([a0.bw,a0.cG,a0.bL,a0.cE,a0.cD,a0.cB,a0.dg,a0.dN]++(Z57.md a0.cg))++(Z57.md a0.bN))++[a0.dy])++(Z57.md a0.bK))++[1]) ((((([a0.bw,a0.cG,a0.bL,a0.cE,a0.cD,a0.cB,a0.dg,a0.dN]++(Z57.md a0.cg))++(Z57.md a0.bN))++[a0.dy])++(Z57.md a0.bK))++[0]))
def gd (a0:aE):Prop:=(aE.Sm (2^21) a0)
def R:=RR gd md
def ak {a0}(h:gd a0):R (aE.r a0)=some ((md a0).map bn):=aM (a:=a0) h
def aV:=CN [.agg fV] (oL 3) RT.dec R
def bp (a0)(hg:gd a0):F (aE.r a0)=ret ((md a0).map bn):=by
 unfold gd at hg
 have H0:=hg
 unfold F md
 try simp only [SS]
 refine ct (Z57.ak H0.1) ?_
 try simp only [SS]
 refine aN (have:=Z57.len a0.cg;have:=(H0.1).1;lm) ?_
 refine ct (Z57.ak H0.2.1) ?_
 try simp only [SS]
 refine aN (have:=Z57.len a0.cg;have:=(H0.1).1;have:=Z57.len a0.bN;have:=(H0.2.1).1;lm) ?_
 refine aN (have:=Z57.len a0.cg;have:=(H0.1).1;have:=Z57.len a0.bN;have:=(H0.2.1).1;lm) ?_
 refine ct (Z57.ak H0.2.2) ?_
 try simp only [SS]
 refine aN (have:=Z57.len a0.cg;have:=(H0.1).1;have:=Z57.len a0.bN;have:=(H0.2.1).1;have:=Z57.len a0.bK;have:=(H0.2.2).1;lm) ?_
 refine aq (fun b:List Int=>ret ((b.map bn):aF)) (fun c1=>?_) (fun c1=>?_)
 ·refine aN (have:=Z57.len a0.cg;have:=(H0.1).1;have:=Z57.len a0.bN;have:=(H0.2.1).1;have:=Z57.len a0.bK;have:=(H0.2.2).1;lm) ?_
  all_goals exact fz
 ·refine aN (have:=Z57.len a0.cg;have:=(H0.1).1;have:=Z57.len a0.bN;have:=(H0.2.1).1;have:=Z57.len a0.bK;have:=(H0.2.2).1;lm) ?_
  all_goals exact fz
def af:cq 292 aV:=W1 49 F mix aD bp (.cons Z57.af .nil) Tryz.func292
def len (a0:aE):(md a0).length=16+a0.cg.aU.length+a0.bN.aU.length+a0.bK.aU.length:=by unfold md;cases a0.bF<;>simp [Z57.md]<;>omega
def Az {k l:aL}{x y:List Int}(h:Z57.md k++x=Z57.md l++y):k=l/\x=y:=by
 obtain ⟨kl,kn⟩:=k
 obtain ⟨ll,ln⟩:=l
 simp only [Z57.md,List.cons_append,List.nil_append,List.cons.injEq] at h
 obtain ⟨h1,h2,h3⟩:=h
 obtain ⟨h4,h5⟩:=List.append_inj h3 (by omega)
 exact ⟨by rw [h1,h4],h5⟩
def tA (a:aE):md a=a.bw::a.cG::a.bL::a.cE::a.cD::a.cB::a.dg::a.dN::(Z57.md a.cg++(Z57.md a.bN++(a.dy::(Z57.md a.bK++[bif a.bF then 1 else 0])))):=by
 unfold md
 cases a.bF<;>simp only [aZ,bh,List.append_assoc,List.cons_append,List.nil_append]
def inj {a b:aE}(h:md a=md b):a=b:=by
 rw [tA,tA] at h
 simp only [List.cons.injEq] at h
 obtain ⟨g1,g2,g3,g4,g5,g6,g7,g8,g9⟩:=h
 obtain ⟨k1,g9⟩:=Az g9
 obtain ⟨k2,g9⟩:=Az g9
 simp only [List.cons.injEq] at g9
 obtain ⟨k3,g9⟩:=g9
 obtain ⟨k4,g9⟩:=Az g9
 have k5:a.bF=b.bF:=by
  simp only [List.cons.injEq,and_true] at g9
  revert g9
  cases a.bF<;>cases b.bF<;>simp
 cases a;cases b
 simp only [aE.mk.injEq]
 exact ⟨g1,g2,g3,g4,g5,g6,g7,g8,k1,k2,k3,k4,k5⟩
end Z61
namespace Z62
def F (x0:Int)(x1:aF):aH:=(cK (eO (((1:Int)+(x1.length:Int))*8)) (cK (eO (((([[L.int x0]]++x1).length:Int)+1)*8)) (call (Z59.R (([[L.int x0]]++x1)++[[L.int x0]])) fun v1=>ret (v1:Int))))
def md (a0:Int)(a1:List Int):Int:=((Z59.md (([a0]++a1)++[a0])):Int)
def gd (a0:Int)(a1:List Int):Prop:=(bI (2^40) (fun y:Int=>True) a1)
def R:=RR (p2 gd) (u2 md)
def ak {a0 a1}(h:gd a0 a1):R (a0,(a1.map bn))=some (md a0 a1):=aM (a:=(a0,a1)) h
def aV:=CN [pI,pL 3] oI RT.dec R
def bp (a0)(a1)(hg:gd a0 a1):F a0 (a1.map bn)=ret (md a0 a1):=by
 unfold gd at hg
 have H1:=hg
 unfold F md
 try simp only [SS]
 refine aN (have:=(H1).1;lm) ?_
 refine aN (have:=(H1).1;lm) ?_
 refine cF (Z59.md (([a0]++a1)++[a0])) (rq (Z59.ak (a0:=(([a0]++a1)++[a0])) ⟨(have:=(H1).1;om),fun _ _=>trivial⟩)) ?_
 all_goals exact fz
def af:cq 406 aV:=W2 13 F mix aD bp (.cons Z59.af .nil) Tryz.func406
end Z62
namespace Z63
def F (x0:Int)(x1:aF):aH:=(cK (eO (((1:Int)+(x1.length:Int))*8)) (call (Z62.R (x0,([[L.int 223]]++x1))) fun v1=>ret (v1:Int)))
def md (a0:Int)(a1:List Int):Int:=((Z62.md a0 ([223]++a1)):Int)
def gd (a0:Int)(a1:List Int):Prop:=(bI (2^39) (fun y:Int=>True) a1)
def R:=RR (p2 gd) (u2 md)
def ak {a0 a1}(h:gd a0 a1):R (a0,(a1.map bn))=some (md a0 a1):=aM (a:=(a0,a1)) h
def aV:=CN [pI,pL 3] oI RT.dec R
def bp (a0)(a1)(hg:gd a0 a1):F a0 (a1.map bn)=ret (md a0 a1):=by
 unfold gd at hg
 have H1:=hg
 unfold F md
 try simp only [SS]
 refine aN (have:=(H1).1;lm) ?_
 refine cF (Z62.md a0 ([223]++a1)) (rq (Z62.ak (a0:=a0) (a1:=([223]++a1)) ⟨(have:=(H1).1;om),fun _ _=>trivial⟩)) ?_
 all_goals exact fz
def af:cq 402 aV:=W2 10 F mix aD bp (.cons Z62.af .nil) Tryz.func402
end Z63
namespace Z64
def F (x0:bz)(x1:aF):aH:=(call (Z49.R (x0.gT,1,99)) fun v1=>(cond v1 (call (Z63.R (x0.gT,x1)) fun v2=>ret ((x0.jP==v2):Bool)) bf))
def md (a0:bz)(a1:List Int):Bool:=(cond (Z49.md a0.gT 1 99) ((a0.jP==(Z63.md a0.gT a1)):Bool) (false:Bool))
def gd (a0:bz)(a1:List Int):Prop:=(bI (2^38) (fun y:Int=>True) a1)
def R:=RR (p2 gd) (u2 md)
def ak {a0 a1}(h:gd a0 a1):R (a0,(a1.map bn))=some (md a0 a1):=aM (a:=(a0,a1)) h
def aV:=CN [.agg yt,pL 3] oB RT.dec R
def bp (a0)(a1)(hg:gd a0 a1):F a0 (a1.map bn)=ret (md a0 a1):=by
 unfold gd at hg
 have H1:=hg
 unfold F md
 try simp only [SS]
 refine ct (Z49.ak trivial) ?_
 refine aq ret (fun c1=>?_) (fun _=>rfl)
 refine ct (Z63.ak (H1.mono (by decide) (fun x hx=>trivial))) ?_
 all_goals exact fz
def af:cq 385 aV:=W2 17 F mix aD bp (.cons Z49.af (.cons Z63.af .nil)) Tryz.func385
end Z64
namespace Z65
inductive Pt where
 | p0 (a b:aF) (c d:Int) (e:bC)
 | p1 (a b:aF) (c d e:Int) (f:bC)
def pid:Pt->Nat
 | .p0 ..=>3
 | .p1 ..=>6
def cQ:Pt->List V
 | .p0 a b c d e=>[.sl none 3 a,.sl none 227 b,.cj 0 0,.int .i64 c,.int .i64 d]
 | .p1 a b c d e f=>[.sl none 3 a,.sl none 227 b,.cj 0 0,.int .i64 c,.int .i64 d,.int .i64 e]
def cR:Pt->List aS
 | .p0 a b c d e=>[.box [.sl none 3 e.aU,.int .i64 e.cV]]
 | .p1 a b c d e f=>[.box [.sl none 3 f.aU,.int .i64 f.cV]]
def step (J:Pt->aH):Pt->aH
 | .p0 a b c d e=>(cond (decide (d<(e.aU.length:Int))) (J (.p1 a b c d 0 e)) (ret (c:Int)))
 | .p1 a b c d e f=>(cond (decide (e<(b.length:Int))) (m2 e (b.length:Int) (m2 d (f.aU.length:Int) (cond ((bz.at b (toNat e)).gT==(jo f.aU (toNat d))) (m2 e (b.length:Int) (call (Z64.R ((bz.at b (toNat e)),a)) fun v1=>(cond v1 (J (.p0 a b (i64.wrap (c+1)) (i64.wrap (d+1)) f)) (J (.p1 a b c d (i64.wrap (e+1)) f))))) (J (.p1 a b c d (i64.wrap (e+1)) f))))) (J (.p0 a b c (i64.wrap (d+1)) f)))
def start (J:Pt->aH)(x0:bC)(x1 x2:aF):aH:=J (.p0 x1 x2 0 0 x0)
def live:Nat->Live:=fun i=>match i with | 3=>[(1,none),(2,none),(3,none),(7,none),(8,none)] | 6=>[(1,none),(2,none),(3,none),(7,none),(8,none),(9,none)] | _=>[]
def md (a0:aL)(a1:List Int)(a2:List bz):Int:=(dV (S:=Int) (β:=Int) (fun (y1:Int) (s3:Int)=>(dV (S:=Unit) (β:=(Int⊕Int)) (fun (y5:bz) (s7:Unit)=>(cond (y5.gT==y1) (cond (Z64.md y5 a1) (.inr (.inl (i64.wrap (s3+1)))) (.inl ())) (.inl ()))) (fun (s7:Unit)=>(.inl s3)) a2 ())) (fun (s3:Int)=>(s3:Int)) a0.aU 0)
def gd (a0:aL)(a1:List Int)(a2:List bz):Prop:=(aL.Sm (2^21) a0)/\(bI (2^38) (fun y:Int=>True) a1)/\(bI (2^21) (fun y:bz=>bz.Sm (2^21) y) a2)
def R:=RR (p3 gd) (u3 md)
def ak {a0 a1 a2}(h:gd a0 a1 a2):R ((aL.r a0),(a1.map bn),(a2.map bz.row))=some (md a0 a1 a2):=aM (a:=(a0,a1,a2)) h
def aV:=CN [.agg iT,pL 3,pL 227] oI RT.dec R
def bp (a0)(a1)(a2)(hg:gd a0 a1 a2):∃n,start (iter step n) (aL.r a0) (a1.map bn) (a2.map bz.row)=ret (md a0 a1 a2):=by
 obtain ⟨H0,H1,H2⟩:=hg
 unfold start md
 try simp only [SS]
 have Bh2:a0.aU.length<=maxLen:=(by
   have:=(H0).1
   try simp only [maxLen] at *
   omega)
 refine ex_eq (out:=ret) (eJ (z:=0)) ?_
 refine dG (p:=Pt.p0 (a1.map bn) (a2.map bz.row) 0 0 (aL.r a0)) fz ?_
 refine vp (pt:=fun (i1:Nat) (s3:Int)=>Pt.p0 (a1.map bn) (a2.map bz.row) s3 (i1:Int) (aL.r a0)) (s:=(0:Int)) (out:=ret) (fun _ _=>True) (fun i1 s3 h2 hih2 K4 hK4 rK4=>?_) (fun s3 hih2=>?_) trivial
 ·simp only [step,SS]
  have bb_:=Bh2
  simp only [maxLen] at bb_
  have:=(H0).1
  refine dw (by apply decide_eq_true;omega) ?_
  have Bh6:a2.length<=maxLen:=(by
    have:=(H2).1
    try simp only [maxLen] at *
    omega)
  refine ex_eq (out:=K4) (eJ (z:=bz.zero)) ?_
  refine dG (p:=Pt.p1 (a1.map bn) (a2.map bz.row) s3 (i1:Int) 0 (aL.r a0)) fz ?_
  refine vp (pt:=fun (i5:Nat) (s7:Unit)=>Pt.p1 (a1.map bn) (a2.map bz.row) s3 (i1:Int) (i5:Int) (aL.r a0)) (s:=(():Unit)) (out:=K4) (fun _ _=>True) (fun i5 s7 h6 hih6 K8 hK8 rK8=>?_) (fun s7 hih6=>?_) trivial
  ·simp only [step,SS]
   have bb_:=Bh6
   simp only [maxLen] at bb_
   have:=(H2).1
   refine dw (by apply decide_eq_true;omega) ?_
   refine dw bE ?_
   refine dw (bM h6) ?_
   refine dw dt ?_
   refine dw (have:=(H0).1;dt) ?_
   refine gP K8 (fun c9=>?_) (fun c9=>?_)
   ·refine dw bE ?_
    refine dw (bM h6) ?_
    refine cx (Z64.ak H1) ?_
    refine gP K8 (fun c10=>?_) (fun c10=>?_)
    ·rw [rK8]
     rw [aJ h2 Bh2]
     first | exact hK4 _ trivial | (simp only [SS];exact hK4 _ trivial) | (simp only [MP];exact hK4 _ trivial)
    ·rw [aJ h6 Bh6]
     first | exact hK8 _ trivial | (simp only [SS];exact hK8 _ trivial) | (simp only [MP];exact hK8 _ trivial)
   ·rw [aJ h6 Bh6]
    first | exact hK8 _ trivial | (simp only [SS];exact hK8 _ trivial) | (simp only [MP];exact hK8 _ trivial)
  ·simp only [step,SS]
   have:=(H2).1
   refine cY (by apply decide_eq_false;omega) ?_
   rw [aJ h2 Bh2]
   first | exact hK4 _ trivial | (simp only [SS];exact hK4 _ trivial) | (simp only [MP];exact hK4 _ trivial)
 ·simp only [step,SS]
  have:=(H0).1
  refine cY (by apply decide_eq_false;omega) ?_
  refine ⟨0,?_⟩
  all_goals exact fz
def af:cq 354 aV:=L3 45 pid cQ cR live step start mix aD bp (.cons Z64.af .nil) Tryz.func354
end Z65
namespace Z66
def F (x0:bC)(x1 x2:aF):aH:=(call (Z54.R x0) fun v1=>(cond v1 (call (Z65.R (x0,x1,x2)) fun v2=>ret ((decide (v2>=x0.cV)):Bool)) bf))
def md (a0:aL)(a1:List Int)(a2:List bz):Bool:=(cond (Z54.md a0) ((decide ((Z65.md a0 a1 a2)>=a0.cV)):Bool) (false:Bool))
def gd (a0:aL)(a1:List Int)(a2:List bz):Prop:=(aL.Sm (2^21) a0)/\(bI (2^38) (fun y:Int=>True) a1)/\(bI (2^21) (fun y:bz=>bz.Sm (2^21) y) a2)
def R:=RR (p3 gd) (u3 md)
def ak {a0 a1 a2}(h:gd a0 a1 a2):R ((aL.r a0),(a1.map bn),(a2.map bz.row))=some (md a0 a1 a2):=aM (a:=(a0,a1,a2)) h
def aV:=CN [.agg iT,pL 3,pL 227] oB RT.dec R
def bp (a0)(a1)(a2)(hg:gd a0 a1 a2):F (aL.r a0) (a1.map bn) (a2.map bz.row)=ret (md a0 a1 a2):=by
 obtain ⟨H0,H1,H2⟩:=hg
 unfold F md
 try simp only [SS]
 refine ct (Z54.ak H0) ?_
 refine aq ret (fun c1=>?_) (fun _=>rfl)
 refine ct (Z65.ak ⟨H0,H1,H2⟩) ?_
 all_goals exact fz
def af:cq 331 aV:=W3 18 F mix aD bp (.cons Z54.af (.cons Z65.af .nil)) Tryz.func331
end Z66
namespace Z67
def F (x0:aT):aH:=(call (Z56.R x0.ay) fun v1=>(cond v1 (cond (x0.ay.cG==0) (cond (x0.ay.bL==1) (cond (!x0.ay.bF) (call (Z60.R (x0.ay.cg,x0.ay.dN)) fun v2=>(cond (x0.ay.bw==v2) (call (Z61.R x0.ay) fun v3=>(call (Z66.R (x0.ay.cg,v3,x0.cT)) fun v4=>ret (v4:Bool))) bf)) bf) bf) bf) bf))
def md (a0:aa):Bool:=(cond (Z56.md a0.ay) (cond (a0.ay.cG==0) (cond (a0.ay.bL==1) (cond (!a0.ay.bF) (cond (a0.ay.bw==(Z60.md a0.ay.cg a0.ay.dN)) ((Z66.md a0.ay.cg (Z61.md a0.ay) a0.cT):Bool) (false:Bool)) (false:Bool)) (false:Bool)) (false:Bool)) (false:Bool))
def gd (a0:aa):Prop:=(aa.Sm (2^21) a0)
def R:=RR gd md
def ak {a0}(h:gd a0):R (aa.r a0)=some (md a0):=aM (a:=a0) h
def aV:=CN [.agg kB] oB RT.dec R
def bp (a0)(hg:gd a0):F (aa.r a0)=ret (md a0):=by
 unfold gd at hg
 have H0:=hg
 unfold F md
 try simp only [SS]
 refine ct (Z56.ak H0.1) ?_
 refine aq ret (fun c1=>?_) (fun _=>rfl)
 try have tc1:=Z56.tr (by simpa using c1)
 refine aq ret (fun c2=>?_) (fun _=>rfl)
 have dc2:=c2
 try simp only [DC] at dc2
 refine aq ret (fun c3=>?_) (fun _=>rfl)
 have dc3:=c3
 try simp only [DC] at dc3
 refine aq ret (fun c4=>?_) (fun _=>rfl)
 have dc4:=c4
 try simp only [DC] at dc4
 refine ct (Z60.ak H0.1.1) ?_
 refine aq ret (fun c5=>?_) (fun _=>rfl)
 have dc5:=c5
 try simp only [DC] at dc5
 refine ct (Z61.ak H0.1) ?_
 try simp only [SS]
 refine ct (Z66.ak ⟨H0.1.1,⟨(have:=Z61.len a0.ay;have:=(H0.1.1).1;have:=(H0.1.2.1).1;have:=(H0.1.2.2).1;om),fun _ _=>trivial⟩,H0.2⟩) ?_
 all_goals exact fz
def af:cq 289 aV:=W1 42 F mix aD bp (.cons Z56.af (.cons Z60.af (.cons Z61.af (.cons Z66.af .nil)))) Tryz.func289
end Z67
namespace Z68
def F (x0:bW):aH:=(call (Z61.R x0) fun v1=>(cK (eO (((1:Int)+(v1.length:Int))*8)) (call (Z59.R ([[L.int 233]]++v1)) fun v2=>ret (v2:Int))))
def md (a0:aE):Int:=((Z59.md ([233]++(Z61.md a0))):Int)
def gd (a0:aE):Prop:=(aE.Sm (2^21) a0)
def R:=RR gd md
def ak {a0}(h:gd a0):R (aE.r a0)=some (md a0):=aM (a:=a0) h
def aV:=CN [.agg fV] oI RT.dec R
def bp (a0)(hg:gd a0):F (aE.r a0)=ret (md a0):=by
 unfold gd at hg
 have H0:=hg
 unfold F md
 try simp only [SS]
 refine ct (Z61.ak H0) ?_
 try simp only [SS]
 refine aN (have:=Z61.len a0;have:=(H0.1).1;have:=(H0.2.1).1;have:=(H0.2.2).1;lm) ?_
 refine cF (Z59.md ([233]++(Z61.md a0))) (rq (Z59.ak (a0:=([233]++(Z61.md a0))) ⟨(have:=Z61.len a0;have:=(H0.1).1;have:=(H0.2.1).1;have:=(H0.2.2).1;om),fun _ _=>trivial⟩)) ?_
 all_goals exact fz
def af:cq 355 aV:=W1 8 F mix aD bp (.cons Z61.af (.cons Z59.af .nil)) Tryz.func355
end Z68
namespace Z69
def F (x0 x1:bW):aH:=(cond x0.bF (ret (4:Int)) (cond x1.bF (ret (6:Int)) (ret (1:Int))))
def md (a0 a1:aE):Int:=(cond a0.bF (4:Int) (cond a1.bF (6:Int) (1:Int)))
def gd (a0 a1:aE):Prop:=True
def R:=RR (p2 gd) (u2 md)
def ak {a0 a1}(h:gd a0 a1):R ((aE.r a0),(aE.r a1))=some (md a0 a1):=aM (a:=(a0,a1)) h
def aV:=CN [.agg fV,.agg fV] oI RT.dec R
def bp (a0)(a1)(hg:gd a0 a1):F (aE.r a0) (aE.r a1)=ret (md a0 a1):=by
 unfold F md
 try simp only [SS]
 refine aq ret (fun _=>rfl) (fun c1=>?_)
 refine aq ret (fun _=>rfl) (fun _=>rfl)
def af:cq 356 aV:=W2 11 F mix aD bp .nil Tryz.func356
end Z69
namespace Z70
inductive Pt where
 | p0 (a b:aF) (c:Int)
def pid:Pt->Nat
 | .p0 ..=>4
def cQ:Pt->List V
 | .p0 a b c=>[.sl none 3 a,.sl none 3 b,.int .i64 c]
def cR:Pt->List aS
 | .p0 a b c=>[]
def step (J:Pt->aH):Pt->aH
 | .p0 a b c=>(cond (decide (c<(a.length:Int))) (m2 c (a.length:Int) (m2 c (b.length:Int) (cond ((jo a (toNat c)) != (jo b (toNat c))) bf (J (.p0 a b (i64.wrap (c+1))))))) eG)
def start (J:Pt->aH)(x0 x1:aF):aH:=(cond ((x0.length:Int) != (x1.length:Int)) bf (J (.p0 x0 x1 0)))
def live:Nat->Live:=fun i=>match i with | 4=>[(0,none),(1,none),(5,none)] | _=>[]
def md (a0 a1:List Int):Bool:=(bif ((a0.length:Int) != (a1.length:Int)) then (false:Bool) else (eD (S:=Unit) (β:=Bool) (fun (i2:Nat) (s4:Unit)=>(cond ((a0.getD i2 0) != (a1.getD i2 0)) (.inr (false:Bool)) (.inl ()))) (fun (s4:Unit)=>(true:Bool)) a0.length 0 ()))
def gd (a0 a1:List Int):Prop:=(bI (2^38) (fun y:Int=>True) a0)/\(bI (2^38) (fun y:Int=>True) a1)
def R:=RR (p2 gd) (u2 md)
def ak {a0 a1}(h:gd a0 a1):R ((a0.map bn),(a1.map bn))=some (md a0 a1):=aM (a:=(a0,a1)) h
def aV:=CN [pL 3,pL 3] oB RT.dec R
def bp (a0)(a1)(hg:gd a0 a1):∃n,start (iter step n) (a0.map bn) (a1.map bn)=ret (md a0 a1):=by
 obtain ⟨H0,H1⟩:=hg
 unfold start md
 try simp only [SS]
 refine gP ret (fun _=>⟨0,rfl⟩) (fun c1=>?_)
 have dc1:=c1
 try simp only [DC] at dc1
 have Bh3:a0.length<=maxLen:=(by
   have:=(H0).1
   try simp only [maxLen] at *
   omega)
 refine dG (p:=Pt.p0 (a0.map bn) (a1.map bn) 0) fz ?_
 refine bU (pt:=fun (i2:Nat) (s4:Unit)=>Pt.p0 (a0.map bn) (a1.map bn) (i2:Int)) (s:=(():Unit)) (out:=ret) (fun _ _=>True) (fun J i2 s4 h3 hih3=>?_) (fun s4 hih3=>?_) trivial
 ·simp only [step,SS]
  have bb_:=Bh3
  simp only [maxLen] at bb_
  have:=(H0).1
  refine bk.yes (by apply decide_eq_true;omega) ?_
  refine bk.yes bE ?_
  refine bk.yes (bM h3) ?_
  refine bk.yes bE ?_
  refine bk.yes (have:=(H1).1;dt) ?_
  refine bk.bif (fun _=>bk.inr rfl) (fun c5=>?_)
  refine bk.inl trivial ?_
  rw [aJ h3 Bh3]
  all_goals exact fz
 ·simp only [step,SS]
  have:=(H0).1
  refine cY (by apply decide_eq_false;omega) ?_
  refine ⟨0,?_⟩
  all_goals exact fz
def af:cq 291 aV:=L2 26 pid cQ cR live step start mix aD bp .nil Tryz.func291
def md_eq (a0 a1:List Int):md a0 a1=eu a0 a1:=by
 unfold md
 refine jY (0) (fun i s h h2=>?_) (fun s=>rfl)
 simp only [bne,eT,bool_beq,eM]
 cases eu _ _<;>rfl
end Z70
namespace Z71
def F (x0 x1:bC):aH:=(cond (x0.cV==x1.cV) (call (Z70.R (x0.aU,x1.aU)) fun v1=>ret (v1:Bool)) bf)
def md (a0 a1:aL):Bool:=(cond (a0.cV==a1.cV) ((Z70.md a0.aU a1.aU):Bool) (false:Bool))
def gd (a0 a1:aL):Prop:=(aL.Sm (2^21) a0)/\(aL.Sm (2^21) a1)
def R:=RR (p2 gd) (u2 md)
def ak {a0 a1}(h:gd a0 a1):R ((aL.r a0),(aL.r a1))=some (md a0 a1):=aM (a:=(a0,a1)) h
def aV:=CN [.agg iT,.agg iT] oB RT.dec R
def bp (a0)(a1)(hg:gd a0 a1):F (aL.r a0) (aL.r a1)=ret (md a0 a1):=by
 obtain ⟨H0,H1⟩:=hg
 unfold F md
 try simp only [SS]
 refine aq ret (fun c1=>?_) (fun _=>rfl)
 refine ct (Z70.ak ⟨(H0.mono (by decide) (fun x hx=>trivial)),(H1.mono (by decide) (fun x hx=>trivial))⟩) ?_
 all_goals exact fz
def af:cq 386 aV:=W2 17 F mix aD bp (.cons Z70.af .nil) Tryz.func386
def md_eq (a0 a1:aL):md a0 a1=eu a0 a1:=by
 unfold md
 cases a0;cases a1
 rw [Bool.eq_iff_iff]
 simp [cU,eM,aL.mk.injEq,Z70.md_eq]
 try (constructor<;>(intro h;simp_all))
end Z71
namespace Z72
def F (x0 x1:bW):aH:=(cond (x0.cB==x1.cB) (ret ((x0.dg==x1.dg):Bool)) bf)
def md (a0 a1:aE):Bool:=(cond (a0.cB==a1.cB) ((a0.dg==a1.dg):Bool) (false:Bool))
def gd (a0 a1:aE):Prop:=True
def R:=RR (p2 gd) (u2 md)
def ak {a0 a1}(h:gd a0 a1):R ((aE.r a0),(aE.r a1))=some (md a0 a1):=aM (a:=(a0,a1)) h
def aV:=CN [.agg fV,.agg fV] oB RT.dec R
def bp (a0)(a1)(hg:gd a0 a1):F (aE.r a0) (aE.r a1)=ret (md a0 a1):=by
 unfold F md
 try simp only [SS]
 refine aq ret (fun c1=>?_) (fun _=>rfl)
 all_goals exact fz
def af:cq 387 aV:=W2 17 F mix aD bp .nil Tryz.func387
end Z72
namespace Z73
def F (x0 x1:bW):aH:=(cond x0.bF (ret (4:Int)) (call (Z55.R x0.bN) fun v1=>(cond v1 (ret (5:Int)) (cond (decide (x1.cE<(i64.wrap (x0.cD+x0.dy)))) (ret (5:Int)) (cond x1.bF (ret (6:Int)) (call (Z71.R (x1.cg,x0.bN)) fun v2=>(cond (!v2) (ret (6:Int)) (call (Z72.R (x1,x0)) fun v3=>(cond (!v3) (ret (6:Int)) (ret (1:Int)))))))))))
def md (a0 a1:aE):Int:=(cond a0.bF (4:Int) (cond (Z55.md a0.bN) (5:Int) (cond (decide (a1.cE<(i64.wrap (a0.cD+a0.dy)))) (5:Int) (cond a1.bF (6:Int) (cond (!(Z71.md a1.cg a0.bN)) (6:Int) (cond (!(Z72.md a1 a0)) (6:Int) (1:Int)))))))
def gd (a0 a1:aE):Prop:=(aE.Sm (2^21) a0)/\(aE.Sm (2^21) a1)
def R:=RR (p2 gd) (u2 md)
def ak {a0 a1}(h:gd a0 a1):R ((aE.r a0),(aE.r a1))=some (md a0 a1):=aM (a:=(a0,a1)) h
def aV:=CN [.agg fV,.agg fV] oI RT.dec R
def bp (a0)(a1)(hg:gd a0 a1):F (aE.r a0) (aE.r a1)=ret (md a0 a1):=by
 obtain ⟨H0,H1⟩:=hg
 unfold F md
 try simp only [SS]
 refine aq ret (fun _=>rfl) (fun c1=>?_)
 refine ct (Z55.ak trivial) ?_
 refine aq ret (fun _=>rfl) (fun c2=>?_)
 refine aq ret (fun _=>rfl) (fun c3=>?_)
 refine aq ret (fun _=>rfl) (fun c4=>?_)
 refine ct (Z71.ak ⟨H1.1,H0.2.1⟩) ?_
 refine aq ret (fun _=>rfl) (fun c5=>?_)
 refine ct (Z72.ak trivial) ?_
 refine aq ret (fun _=>rfl) (fun _=>rfl)
def af:cq 357 aV:=W2 39 F mix aD bp (.cons Z55.af (.cons Z71.af (.cons Z72.af .nil))) Tryz.func357
end Z73
namespace Z74
def F (x0 x1:bW):aH:=(call (Z55.R x0.bK) fun v1=>(cond v1 (ret (5:Int)) (cond (x1.bF==x0.bF) (ret (6:Int)) (call (Z72.R (x1,x0)) fun v2=>(cond (!v2) (ret (6:Int)) (call (Z71.R (x1.bK,x0.bK)) fun v3=>(cond (!v3) (ret (6:Int)) (call (Z71.R (x1.bN,x0.bN)) fun v4=>(cond (!v4) (ret (6:Int)) (cond (x1.dy != x0.dy) (ret (6:Int)) (cond x1.bF (call (Z71.R (x1.cg,x0.cg)) fun v5=>(cond (!v5) (ret (6:Int)) (ret (1:Int)))) (ret (1:Int)))))))))))))
def md (a0 a1:aE):Int:=(cond (Z55.md a0.bK) (5:Int) (cond (a1.bF==a0.bF) (6:Int) (cond (!(Z72.md a1 a0)) (6:Int) (cond (!(Z71.md a1.bK a0.bK)) (6:Int) (cond (!(Z71.md a1.bN a0.bN)) (6:Int) (cond (a1.dy != a0.dy) (6:Int) (cond a1.bF (cond (!(Z71.md a1.cg a0.cg)) (6:Int) (1:Int)) (1:Int))))))))
def gd (a0 a1:aE):Prop:=(aE.Sm (2^21) a0)/\(aE.Sm (2^21) a1)
def R:=RR (p2 gd) (u2 md)
def ak {a0 a1}(h:gd a0 a1):R ((aE.r a0),(aE.r a1))=some (md a0 a1):=aM (a:=(a0,a1)) h
def aV:=CN [.agg fV,.agg fV] oI RT.dec R
def bp (a0)(a1)(hg:gd a0 a1):F (aE.r a0) (aE.r a1)=ret (md a0 a1):=by
 obtain ⟨H0,H1⟩:=hg
 unfold F md
 try simp only [SS]
 refine ct (Z55.ak trivial) ?_
 refine aq ret (fun _=>rfl) (fun c1=>?_)
 refine aq ret (fun _=>rfl) (fun c2=>?_)
 refine ct (Z72.ak trivial) ?_
 refine aq ret (fun _=>rfl) (fun c3=>?_)
 refine ct (Z71.ak ⟨H1.2.2,H0.2.2⟩) ?_
 refine aq ret (fun _=>rfl) (fun c4=>?_)
 refine ct (Z71.ak ⟨H1.2.1,H0.2.1⟩) ?_
 refine aq ret (fun _=>rfl) (fun c5=>?_)
 refine aq ret (fun _=>rfl) (fun c6=>?_)
 refine aq ret (fun c7=>?_) (fun _=>rfl)
 refine ct (Z71.ak ⟨H1.1,H0.1⟩) ?_
 refine aq ret (fun _=>rfl) (fun _=>rfl)
def af:cq 358 aV:=W2 55 F mix aD bp (.cons Z55.af (.cons Z72.af (.cons Z71.af .nil))) Tryz.func358
end Z74
namespace Z75
def F (x0:bW)(x1:aT):aH:=(call (Z56.R x0) fun v1=>(cond (!v1) (ret (2:Int)) (call (Z56.R x1.ay) fun v2=>(cond (!v2) (ret (2:Int)) (cond (x1.ay.bw != x0.bw) (ret (3:Int)) (cond (x1.ay.cG != (i64.wrap (x0.cG+1))) (ret (3:Int)) (call (Z68.R x0) fun v3=>(cond (x1.ay.dN != v3) (ret (3:Int)) (cond (decide (x1.ay.cE<x0.cE)) (ret (3:Int)) (call (Z69.R (x0,x1.ay)) fun v4=>(cond (x1.ay.bL==2) (call (Z73.R (x0,x1.ay)) fun v5=>(cond (v5==1) (call (Z61.R x1.ay) fun v6=>(call (Z66.R (x0.bN,v6,x1.cT)) fun v7=>(cond (!v7) (ret (7:Int)) (ret (v5:Int))))) (ret (v5:Int)))) (cond (x1.ay.bL==3) (call (Z74.R (x0,x1.ay)) fun v8=>(cond (v8==1) (call (Z61.R x1.ay) fun v9=>(call (Z66.R (x0.bK,v9,x1.cT)) fun v10=>(cond (!v10) (ret (7:Int)) (ret (v8:Int))))) (ret (v8:Int)))) (cond (v4==1) (call (Z61.R x1.ay) fun v11=>(call (Z66.R (x0.cg,v11,x1.cT)) fun v12=>(cond (!v12) (ret (7:Int)) (ret (v4:Int))))) (ret (v4:Int)))))))))))))))
def md (a0:aE)(a1:aa):Int:=(cond (!(Z56.md a0)) (2:Int) (cond (!(Z56.md a1.ay)) (2:Int) (cond (a1.ay.bw != a0.bw) (3:Int) (cond (a1.ay.cG != (i64.wrap (a0.cG+1))) (3:Int) (cond (a1.ay.dN != (Z68.md a0)) (3:Int) (cond (decide (a1.ay.cE<a0.cE)) (3:Int) (cond (a1.ay.bL==2) (cond ((Z73.md a0 a1.ay)==1) (cond (!(Z66.md a0.bN (Z61.md a1.ay) a1.cT)) (7:Int) ((Z73.md a0 a1.ay):Int)) ((Z73.md a0 a1.ay):Int)) (cond (a1.ay.bL==3) (cond ((Z74.md a0 a1.ay)==1) (cond (!(Z66.md a0.bK (Z61.md a1.ay) a1.cT)) (7:Int) ((Z74.md a0 a1.ay):Int)) ((Z74.md a0 a1.ay):Int)) (cond ((Z69.md a0 a1.ay)==1) (cond (!(Z66.md a0.cg (Z61.md a1.ay) a1.cT)) (7:Int) ((Z69.md a0 a1.ay):Int)) ((Z69.md a0 a1.ay):Int))))))))))
def gd (a0:aE)(a1:aa):Prop:=(aE.Sm (2^21) a0)/\(aa.Sm (2^21) a1)
def R:=RR (p2 gd) (u2 md)
def ak {a0 a1}(h:gd a0 a1):R ((aE.r a0),(aa.r a1))=some (md a0 a1):=aM (a:=(a0,a1)) h
def aV:=CN [.agg fV,.agg kB] oI RT.dec R
def bp (a0)(a1)(hg:gd a0 a1):F (aE.r a0) (aa.r a1)=ret (md a0 a1):=by
 obtain ⟨H0,H1⟩:=hg
 unfold F md
 try simp only [SS]
 refine ct (Z56.ak H0) ?_
 refine aq ret (fun _=>rfl) (fun c1=>?_)
 have dc1:=c1
 try simp only [DC] at dc1
 try have tc1:=Z56.tr (by simpa using c1)
 refine ct (Z56.ak H1.1) ?_
 refine aq ret (fun _=>rfl) (fun c2=>?_)
 have dc2:=c2
 try simp only [DC] at dc2
 try have tc2:=Z56.tr (by simpa using c2)
 refine aq ret (fun _=>rfl) (fun c3=>?_)
 have dc3:=c3
 try simp only [DC] at dc3
 refine aq ret (fun _=>rfl) (fun c4=>?_)
 have dc4:=c4
 try simp only [DC] at dc4
 refine ct (Z68.ak H0) ?_
 refine aq ret (fun _=>rfl) (fun c5=>?_)
 have dc5:=c5
 try simp only [DC] at dc5
 refine aq ret (fun _=>rfl) (fun c6=>?_)
 have dc6:=c6
 try simp only [DC] at dc6
 refine ct (Z69.ak trivial) ?_
 refine aq ret (fun c7=>?_) (fun c7=>?_)
 ·have dc7:=c7
  try simp only [DC] at dc7
  refine ct (Z73.ak ⟨H0,H1.1⟩) ?_
  refine aq ret (fun c8=>?_) (fun c8=>?_)
  ·have dc8:=c8
   try simp only [DC] at dc8
   refine ct (Z61.ak H1.1) ?_
   try simp only [SS]
   refine ct (Z66.ak ⟨H0.2.1,⟨(have:=Z61.len a1.ay;have:=(H1.1.1).1;have:=(H1.1.2.1).1;have:=(H1.1.2.2).1;om),fun _ _=>trivial⟩,H1.2⟩) ?_
   refine aq ret (fun _=>rfl) (fun c9=>?_)
   all_goals exact fz
  ·all_goals exact fz
 ·have dc7:=c7
  try simp only [DC] at dc7
  refine aq ret (fun c10=>?_) (fun c10=>?_)
  ·have dc10:=c10
   try simp only [DC] at dc10
   refine ct (Z74.ak ⟨H0,H1.1⟩) ?_
   refine aq ret (fun c11=>?_) (fun c11=>?_)
   ·have dc11:=c11
    try simp only [DC] at dc11
    refine ct (Z61.ak H1.1) ?_
    try simp only [SS]
    refine ct (Z66.ak ⟨H0.2.2,⟨(have:=Z61.len a1.ay;have:=(H1.1.1).1;have:=(H1.1.2.1).1;have:=(H1.1.2.2).1;om),fun _ _=>trivial⟩,H1.2⟩) ?_
    refine aq ret (fun _=>rfl) (fun c12=>?_)
    all_goals exact fz
   ·all_goals exact fz
  ·have dc10:=c10
   try simp only [DC] at dc10
   refine aq ret (fun c13=>?_) (fun c13=>?_)
   ·have dc13:=c13
    try simp only [DC] at dc13
    refine ct (Z61.ak H1.1) ?_
    try simp only [SS]
    refine ct (Z66.ak ⟨H0.1,⟨(have:=Z61.len a1.ay;have:=(H1.1.1).1;have:=(H1.1.2.1).1;have:=(H1.1.2.2).1;om),fun _ _=>trivial⟩,H1.2⟩) ?_
    refine aq ret (fun _=>rfl) (fun c14=>?_)
    all_goals exact fz
   ·all_goals exact fz
def af:cq 332 aV:=W2 78 F mix aD bp (.cons Z56.af (.cons Z68.af (.cons Z69.af (.cons Z73.af (.cons Z61.af (.cons Z66.af (.cons Z74.af .nil))))))) Tryz.func332
end Z75
namespace Z76
def F (x0:bW)(x1:aT):aH:=(call (Z75.R (x0,x1)) fun v1=>ret ((v1==1):Bool))
def md (a0:aE)(a1:aa):Bool:=(((Z75.md a0 a1)==1):Bool)
def gd (a0:aE)(a1:aa):Prop:=(aE.Sm (2^21) a0)/\(aa.Sm (2^21) a1)
def R:=RR (p2 gd) (u2 md)
def ak {a0 a1}(h:gd a0 a1):R ((aE.r a0),(aa.r a1))=some (md a0 a1):=aM (a:=(a0,a1)) h
def aV:=CN [.agg fV,.agg kB] oB RT.dec R
def bp (a0)(a1)(hg:gd a0 a1):F (aE.r a0) (aa.r a1)=ret (md a0 a1):=by
 obtain ⟨H0,H1⟩:=hg
 unfold F md
 try simp only [SS]
 refine ct (Z75.ak ⟨H0,H1⟩) ?_
 all_goals exact fz
def af:cq 290 aV:=W2 9 F mix aD bp (.cons Z75.af .nil) Tryz.func290
end Z76
namespace Z77
inductive Pt where
 | p0 (a:aF) (b:Int)
def pid:Pt->Nat
 | .p0 ..=>2
def cQ:Pt->List V
 | .p0 a b=>[.sl none 178 a,.int .i64 b]
def cR:Pt->List aS
 | .p0 a b=>[]
def step (J:Pt->aH):Pt->aH
 | .p0 a b=>(cond (decide (b<(a.length:Int))) (cond (b==0) (cK (decide ((0:Int)<(a.length:Int))) (call (Z67.R (aT.at a 0)) fun v1=>(cond (!v1) (ret (b:Int)) (cond (decide (b>0)) (cK (decide ((0:Int)<=(i64.wrap (b - 1)))) (cK (decide ((i64.wrap (b - 1))<(a.length:Int))) (m2 b (a.length:Int) (call (Z76.R ((aT.at a (toNat (i64.wrap (b - 1)))).ay,(aT.at a (toNat b)))) fun v2=>(cond (!v2) (ret (b:Int)) (J (.p0 a (i64.wrap (b+1))))))))) (J (.p0 a (i64.wrap (b+1)))))))) (cond (decide (b>0)) (cK (decide ((0:Int)<=(i64.wrap (b - 1)))) (cK (decide ((i64.wrap (b - 1))<(a.length:Int))) (m2 b (a.length:Int) (call (Z76.R ((aT.at a (toNat (i64.wrap (b - 1)))).ay,(aT.at a (toNat b)))) fun v3=>(cond (!v3) (ret (b:Int)) (J (.p0 a (i64.wrap (b+1))))))))) (J (.p0 a (i64.wrap (b+1)))))) (ret ((-1):Int)))
def start (J:Pt->aH)(x0:aF):aH:=J (.p0 x0 0)
def live:Nat->Live:=fun i=>match i with | 2=>[(0,none),(3,none)] | _=>[]
def md (a0:List aa):Int:=(dF (S:=Unit) (β:=Int) (fun (i1:Nat) (y1:aa) (s3:Unit)=>(cond ((i1:Int)==0) (cond (!(Z67.md (a0.getD 0 aa.zero))) (.inr ((i1:Int):Int)) (cond (decide ((i1:Int)>0)) (cond (!(Z76.md ((a0.getD (toNat (i64.wrap ((i1:Int) - 1))) aa.zero).ay) y1)) (.inr ((i1:Int):Int)) (.inl ())) (.inl ()))) (cond (decide ((i1:Int)>0)) (cond (!(Z76.md ((a0.getD (toNat (i64.wrap ((i1:Int) - 1))) aa.zero).ay) y1)) (.inr ((i1:Int):Int)) (.inl ())) (.inl ())))) (fun (s3:Unit)=>((-1):Int)) 0 a0 ())
def gd (a0:List aa):Prop:=(bI (2^21) (fun y:aa=>aa.Sm (2^21) y) a0)
def R:=RR gd md
def ak {a0}(h:gd a0):R (a0.map aa.row)=some (md a0):=aM (a:=a0) h
def aV:=CN [pL 178] oI RT.dec R
def bp (a0)(hg:gd a0):∃n,start (iter step n) (a0.map aa.row)=ret (md a0):=by
 unfold gd at hg
 have H0:=hg
 unfold start md
 try simp only [SS]
 have Bh2:a0.length<=maxLen:=(by
   have:=(H0).1
   try simp only [maxLen] at *
   omega)
 refine ex_eq (out:=ret) (cH (z:=aa.zero)) ?_
 refine dG (p:=Pt.p0 (a0.map aa.row) 0) fz ?_
 refine bU (pt:=fun (i1:Nat) (s3:Unit)=>Pt.p0 (a0.map aa.row) (i1:Int)) (s:=(():Unit)) (out:=ret) (fun _ _=>True) (fun J i1 s3 h2 hih2=>?_) (fun s3 hih2=>?_) trivial
 ·simp only [step,SS]
  have bb_:=Bh2
  simp only [maxLen] at bb_
  have:=(H0).1
  refine bk.yes (by apply decide_eq_true;omega) ?_
  refine bk.bif (fun c4=>?_) (fun c4=>?_)
  ·have dc4:=c4
   try simp only [DC] at dc4
   refine bk.yes (have:=(H0).1;dt) ?_
   refine cr (Z67.ak (bI.getD (z:=aa.zero) H0 (by first | assumption | omega | (simp (disch:=omega) only [wi];omega) | (simp;omega)))) ?_
   refine bk.bif (fun c5=>?_) (fun c5=>?_)
   ·refine bk.inr ?_
    all_goals exact fz
   ·have dc5:=c5
    try simp only [DC] at dc5
    refine bk.bif (fun c6=>?_) (fun c6=>?_)
    ·have dc6:=c6
     try simp only [DC] at dc6
     refine bk.yes dt ?_
     refine bk.yes (have:=(H0).1;dt) ?_
     refine bk.yes bE ?_
     refine bk.yes (bM h2) ?_
     refine cr (Z76.ak ⟨(bI.getD (z:=aa.zero) H0 (by first | assumption | omega | (simp (disch:=omega) only [wi];omega) | (simp;omega))).1,(bI.getD (z:=aa.zero) H0 h2)⟩) ?_
     refine bk.bif (fun c7=>?_) (fun c7=>?_)
     ·refine bk.inr ?_
      all_goals exact fz
     ·refine bk.inl trivial ?_
      rw [aJ h2 Bh2]
      all_goals exact fz
    ·refine bk.inl trivial ?_
     rw [aJ h2 Bh2]
     all_goals exact fz
  ·have dc4:=c4
   try simp only [DC] at dc4
   refine bk.bif (fun c8=>?_) (fun c8=>?_)
   ·have dc8:=c8
    try simp only [DC] at dc8
    refine bk.yes dt ?_
    refine bk.yes (have:=(H0).1;dt) ?_
    refine bk.yes bE ?_
    refine bk.yes (bM h2) ?_
    refine cr (Z76.ak ⟨(bI.getD (z:=aa.zero) H0 (by first | assumption | omega | (simp (disch:=omega) only [wi];omega) | (simp;omega))).1,(bI.getD (z:=aa.zero) H0 h2)⟩) ?_
    refine bk.bif (fun c9=>?_) (fun c9=>?_)
    ·refine bk.inr ?_
     all_goals exact fz
    ·refine bk.inl trivial ?_
     rw [aJ h2 Bh2]
     all_goals exact fz
   ·refine bk.inl trivial ?_
    rw [aJ h2 Bh2]
    all_goals exact fz
 ·simp only [step,SS]
  have:=(H0).1
  refine cY (by apply decide_eq_false;omega) ?_
  refine ⟨0,?_⟩
  all_goals exact fz
def af:cq 234 aV:=L1 38 pid cQ cR live step start mix aD bp (.cons Z67.af (.cons Z76.af .nil)) Tryz.func234
end Z77
namespace Z78
def F (x0:aF):aH:=(call (Z49.R ((x0.length:Int),1,12)) fun v1=>(cond v1 (call (Z77.R x0) fun v2=>ret ((decide (v2<0)):Bool)) bf))
def md (a0:List aa):Bool:=(cond (Z49.md (a0.length:Int) 1 12) ((decide ((Z77.md a0)<0)):Bool) (false:Bool))
def gd (a0:List aa):Prop:=(bI (2^21) (fun y:aa=>aa.Sm (2^21) y) a0)
def R:=RR gd md
def ak {a0}(h:gd a0):R (a0.map aa.row)=some (md a0):=aM (a:=a0) h
def aV:=CN [pL 178] oB RT.dec R
def bp (a0)(hg:gd a0):F (a0.map aa.row)=ret (md a0):=by
 unfold gd at hg
 have H0:=hg
 unfold F md
 try simp only [SS]
 refine ct (Z49.ak trivial) ?_
 refine aq ret (fun c1=>?_) (fun _=>rfl)
 refine ct (Z77.ak H0) ?_
 all_goals exact fz
def af:cq 178 aV:=W1 11 F mix aD bp (.cons Z49.af (.cons Z77.af .nil)) Tryz.func178
def tr {a0:List aa}(h:md a0=true):1<=a0.length/\a0.length<=12:=by simp [md,Z49.md] at h;omega
def rz {l:List aa}(h:md l=true):∀i,i<l.length->Z56.md (l.getD i aa.zero).ay=true:=by
 intro i hi
 have hl:=tr h
 have h1:Z77.md l<0:=by
  unfold md at h
  cases hc:Z49.md (l.length:Int) 1 12<;>rw [hc] at h
  ·cases h
  ·simpa using h
 unfold Z77.md at h1
 have h2:=sK (z:=aa.zero) (by
  intro i x s b h
  revert h
  simp only [Bool.cond_eq_ite]
  repeat' split
  all_goals (intro h;first | (cases h;rfl) | cases h)) h1 i hi
 by_cases h0:i=0
 ·subst h0
  cases hf:Z67.md (l.getD 0 aa.zero)
  ·rw [hf] at h2;cases h2
  ·unfold Z67.md at hf
   cases hh:Z56.md (l.getD 0 aa.zero).ay
   ·rw [hh] at hf;cases hf
   ·rfl
 ·have e:((i:Int)==0)=false:=beq_eq_false_iff_ne.2 (by omega)
  have e2:decide ((i:Int)>0)=true:=by simpa using by omega
  simp only [e,e2,bh,aZ] at h2
  cases hf:Z76.md ((l.getD (toNat (i64.wrap ((i:Int) - 1))) aa.zero).ay) (l.getD i aa.zero)
  ·rw [hf] at h2;cases h2
  ·unfold Z76.md Z75.md at hf
   cases hh:Z56.md (l.getD i aa.zero).ay
   ·rw [hh] at hf
    cases hp:Z56.md ((l.getD (toNat (i64.wrap ((i:Int) - 1))) aa.zero).ay)<;>rw [hp] at hf<;>cases hf
   ·rfl
def Bo {l:List aa}(h:md l=true):∀i,i<l.length->(l.getD i aa.zero).ay.bw=(l.getD 0 aa.zero).ay.bw:=by
 have hl:=tr h
 have h1:Z77.md l<0:=by
  unfold md at h
  cases hc:Z49.md (l.length:Int) 1 12<;>rw [hc] at h
  ·cases h
  ·simpa using h
 unfold Z77.md at h1
 have h2:=sK (z:=aa.zero) (by
  intro i x s b h
  revert h
  simp only [Bool.cond_eq_ite]
  repeat' split
  all_goals (intro h;first | (cases h;rfl) | cases h)) h1
 intro i
 induction i with
 | zero=>intro _;rfl
 | succ i ih=>
  intro hi
  have h3:=h2 (i+1) hi
  have e:(((i+1:Nat):Int)==0)=false:=beq_eq_false_iff_ne.2 (by omega)
  have e2:decide (((i+1:Nat):Int)>0)=true:=by simpa using by omega
  have ei:toNat (i64.wrap (((i+1:Nat):Int) - 1))=i:=by simp (disch:=omega) only [wi];omega
  simp only [e,e2,bh,aZ] at h3
  rw [ei] at h3
  cases hf:Z76.md ((l.getD i aa.zero).ay) (l.getD (i+1) aa.zero)
  ·rw [hf] at h3;cases h3
  ·unfold Z76.md Z75.md at hf
   cases hz:((l.getD (i+1) aa.zero).ay.bw != (l.getD i aa.zero).ay.bw)
   ·rw [<-ih (by omega)];exact (by simpa using hz)
   ·rw [hz] at hf
    cases hp:Z56.md (l.getD i aa.zero).ay<;>rw [hp] at hf
    ·cases hf
    ·cases hh:Z56.md (l.getD (i+1) aa.zero).ay<;>rw [hh] at hf<;>cases hf
end Z78
namespace Z79
def F (x0:aF):aH:=(call (Z78.R x0) fun v1=>(cond (!v1) (ret (((⟨0,0,0,0,0,0,0,0,(⟨[],0⟩:bC),(⟨[],0⟩:bC),0,(⟨[],0⟩:bC),false⟩:bW),false):bW×Bool)) (cK (decide ((0:Int)<=(i64.wrap ((x0.length:Int) - 1)))) (cK (decide ((i64.wrap ((x0.length:Int) - 1))<(x0.length:Int))) (call (Z38.R ((aT.at x0 (toNat (i64.wrap ((x0.length:Int) - 1)))).ay)) fun v2=>ret ((v2,true):bW×Bool))))))
def md (a0:List aa):aE×Bool:=(cond (!(Z78.md a0)) ((⟨0,0,0,0,0,0,0,0,(⟨[],0⟩:aL),(⟨[],0⟩:aL),0,(⟨[],0⟩:aL),false⟩:aE),false) (((a0.getD (toNat (i64.wrap ((a0.length:Int) - 1))) aa.zero).ay),true))
def gd (a0:List aa):Prop:=(bI (2^21) (fun y:aa=>aa.Sm (2^21) y) a0)
def R:=RR gd md
def ak {a0}(h:gd a0):R (a0.map aa.row)=some ((aE.r (md a0).1),(md a0).2):=aM (a:=a0) h
def aV:=CN [pL 178] (.hU [(true,f175),(false,[fB])]) RT.dec R
def bp (a0)(hg:gd a0):F (a0.map aa.row)=ret ((aE.r (md a0).1),(md a0).2):=by
 unfold gd at hg
 have H0:=hg
 unfold F md
 try simp only [SS]
 refine ct (Z78.ak H0) ?_
 refine aq (fun b:aE×Bool=>ret (((aE.r b.1),b.2):bW×Bool)) (fun c1=>?_) (fun c1=>?_)
 ·all_goals exact fz
 ·have dc1:=c1
  try simp only [DC] at dc1
  try have tc1:=Z78.tr (by simpa using c1)
  refine aN (have:=(H0).1;dt) ?_
  refine aN (have:=(H0).1;dt) ?_
  refine ct (Z38.ak (bI.getD (z:=aa.zero) H0 (by first | assumption | omega | (simp (disch:=omega) only [wi];omega) | (simp;omega))).1) ?_
  try simp only [SS]
  all_goals exact fz
def af:cq 137 aV:=W1 16 F mix aD bp (.cons Z78.af (.cons Z38.af .nil)) Tryz.func137
def head {l:List aa}(h:(md l).2=true):Z78.md l=true/\(md l).1=(l.getD (l.length - 1) aa.zero).ay/\Z56.md (md l).1=true:=by
 unfold md at h ⊢
 cases hc:Z78.md l
 ·rw [hc] at h;cases h
 ·have hl:=Z78.tr hc
  have hw:toNat (i64.wrap ((l.length:Int) - 1))=l.length - 1:=by
   rw [Go.IntWalk.i64_in _ (by omega)];omega
  simp only [Bool.not_true,bh,hw]
  exact ⟨trivial,trivial,Z78.rz hc _ (by omega)⟩
end Z79
namespace Z80
def F (x0:aW):aH:=(cond (x0.bL==1) (call (Z50.R x0.aQ) fun v1=>(cond v1 (call (Z49.R (x0.bX,0,999999)) fun v2=>(cond v2 (ret (((x0.bB.length:Int)==0):Bool)) bf)) bf)) (cond (x0.bL==2) (call (Z50.R x0.aQ) fun v3=>(cond v3 (call (Z49.R (x0.bX,0,2147483646)) fun v4=>(cond v4 (ret (((x0.bB.length:Int)==0):Bool)) bf)) bf)) (cond (x0.bL==3) (call (Z50.R x0.aQ) fun v5=>(cond v5 (call (Z49.R (x0.bX,0,2147483646)) fun v6=>(cond v6 (call (Z51.R x0.bB) fun v7=>ret (v7:Bool)) bf)) bf)) bf)))
def md (a0:ah):Bool:=(cond (a0.bL==1) (cond (Z50.md a0.aQ) (cond (Z49.md a0.bX 0 999999) (((a0.bB.length:Int)==0):Bool) (false:Bool)) (false:Bool)) (cond (a0.bL==2) (cond (Z50.md a0.aQ) (cond (Z49.md a0.bX 0 2147483646) (((a0.bB.length:Int)==0):Bool) (false:Bool)) (false:Bool)) (cond (a0.bL==3) (cond (Z50.md a0.aQ) (cond (Z49.md a0.bX 0 2147483646) ((Z51.md a0.bB):Bool) (false:Bool)) (false:Bool)) (false:Bool))))
def gd (a0:ah):Prop:=(ah.Sm (2^21) a0)
def R:=RR gd md
def ak {a0}(h:gd a0):R (ah.r a0)=some (md a0):=aM (a:=a0) h
def aV:=CN [.agg sX] oB RT.dec R
def bp (a0)(hg:gd a0):F (ah.r a0)=ret (md a0):=by
 unfold gd at hg
 have H0:=hg
 unfold F md
 try simp only [SS]
 refine aq ret (fun c1=>?_) (fun c1=>?_)
 ·refine ct (Z50.ak (le_trans H0.1 (by decide))) ?_
  refine aq ret (fun c2=>?_) (fun _=>rfl)
  refine ct (Z49.ak trivial) ?_
  refine aq ret (fun c3=>?_) (fun _=>rfl)
  all_goals exact fz
 ·refine aq ret (fun c4=>?_) (fun c4=>?_)
  ·refine ct (Z50.ak (le_trans H0.1 (by decide))) ?_
   refine aq ret (fun c5=>?_) (fun _=>rfl)
   refine ct (Z49.ak trivial) ?_
   refine aq ret (fun c6=>?_) (fun _=>rfl)
   all_goals exact fz
  ·refine aq ret (fun c7=>?_) (fun _=>rfl)
   refine ct (Z50.ak (le_trans H0.1 (by decide))) ?_
   refine aq ret (fun c8=>?_) (fun _=>rfl)
   refine ct (Z49.ak trivial) ?_
   refine aq ret (fun c9=>?_) (fun _=>rfl)
   refine ct (Z51.ak (H0.2.mono (by decide) (fun x hx=>(le_trans hx (by decide))))) ?_
   all_goals exact fz
def af:cq 260 aV:=W1 52 F mix aD bp (.cons Z50.af (.cons Z49.af (.cons Z51.af .nil))) Tryz.func260
end Z80
namespace Z81
def F (x0 x1:aA):aH:=(cond (Op.bytesLess x0.toList x1.toList) (ret ((-1):Int)) (cond (!((Op.bytesLess x0.toList x1.toList)||(x0.toList==x1.toList))) (ret (1:Int)) (ret (0:Int))))
def md (a0 a1:aA):Int:=(cond (Op.bytesLess a0.toList a1.toList) ((-1):Int) (cond (!((Op.bytesLess a0.toList a1.toList)||(a0.toList==a1.toList))) (1:Int) (0:Int)))
def gd (a0 a1:aA):Prop:=True
def R:=RR (p2 gd) (u2 md)
def ak {a0 a1}(h:gd a0 a1):R (a0,a1)=some (md a0 a1):=aM (a:=(a0,a1)) h
def aV:=CN [pS,pS] oI RT.dec R
def bp (a0)(a1)(hg:gd a0 a1):F a0 a1=ret (md a0 a1):=by
 unfold F md
 try simp only [SS]
 refine aq ret (fun _=>rfl) (fun c1=>?_)
 refine aq ret (fun _=>rfl) (fun _=>rfl)
def af:cq 69 aV:=W2 13 F mix aD bp .nil Tryz.func69
def vals (a b:aA):md a b=-1∨md a b=0∨md a b=1:=by
 unfold md
 cases Op.bytesLess a.toList b.toList
 ·cases (!(false||(a.toList==b.toList)))<;>simp
 ·simp
def lt (a b:aA):decide (md a b<0)=(md a b == -1):=by
 rcases vals a b with h | h | h<;>rw [h]<;>rfl
def gt (a b:aA):decide (md a b>0)=(md a b==1):=by
 rcases vals a b with h | h | h<;>rw [h]<;>rfl
def bl:∀a b:List UInt8,(Op.bytesLess a b||a==b)=!(Op.bytesLess b a)
 | [],[]=>by simp [Op.bytesLess]
 | [],_::_=>by simp [Op.bytesLess]
 | _::_,[]=>by simp [Op.bytesLess]
 | a::xs,b::ys=>by
  have ih:=bl xs ys
  simp only [Op.bytesLess]
  by_cases h1:a<b
  ·have h2:¬b<a:=UInt8.not_lt.2 (UInt8.le_of_lt h1)
   have h3:¬b=a:=fun h=>by subst h;exact UInt8.lt_irrefl _ h1
   simp [h1,h2,h3]
  ·by_cases h2:a=b
   ·subst h2
    have hr:¬a<a:=UInt8.lt_irrefl a
    simp only [hr,decide_false,Bool.false_or,beq_self_eq_true,Bool.true_and,List.cons_beq_cons]
    exact ih
   ·have h3:b<a:=by
     rcases UInt8.lt_or_lt_of_ne h2 with h | h
     ·exact (h1 h).elim
     ·exact h
    simp [h1,h2,h3,List.cons_beq_cons]
def swap (a b:aA):decide (md a b<=0)=(md b a != -1):=by
 unfold md
 rw [bl a.toList b.toList,bl b.toList a.toList]
 have h:=bl a.toList b.toList
 cases h1:Op.bytesLess a.toList b.toList<;>cases h2:Op.bytesLess b.toList a.toList<;>rw [h1,h2] at h<;>simp at h ⊢
end Z81
namespace Z82
inductive Pt where
 | p0 (a:aF) (b:Int)
def pid:Pt->Nat
 | .p0 ..=>2
def cQ:Pt->List V
 | .p0 a b=>[.sl none 38 a,.int .i64 b]
def cR:Pt->List aS
 | .p0 a b=>[]
def step (J:Pt->aH):Pt->aH
 | .p0 a b=>(cond (decide (b<(a.length:Int))) (m2 b (a.length:Int) (call (Z80.R (aW.at a (toNat b))) fun v1=>(cond (!v1) bf (cond (decide (b>0)) (cK (decide ((0:Int)<=(i64.wrap (b - 1)))) (cK (decide ((i64.wrap (b - 1))<(a.length:Int))) (m2 b (a.length:Int) (call (Z81.R ((aW.at a (toNat (i64.wrap (b - 1)))).aQ,(aW.at a (toNat b)).aQ)) fun v2=>(cond (v2 != (-1)) bf (J (.p0 a (i64.wrap (b+1))))))))) (J (.p0 a (i64.wrap (b+1)))))))) (ret ((decide ((a.length:Int)<=12)):Bool)))
def start (J:Pt->aH)(x0:aF):aH:=J (.p0 x0 0)
def live:Nat->Live:=fun i=>match i with | 2=>[(0,none),(3,none)] | _=>[]
def md (a0:List ah):Bool:=(dF (S:=Unit) (β:=Bool) (fun (i1:Nat) (y1:ah) (s3:Unit)=>(cond (!(Z80.md y1)) (.inr (false:Bool)) (cond (decide ((i1:Int)>0)) (cond ((Z81.md ((a0.getD (toNat (i64.wrap ((i1:Int) - 1))) ah.zero).aQ) (y1.aQ)) != (-1)) (.inr (false:Bool)) (.inl ())) (.inl ())))) (fun (s3:Unit)=>((decide ((a0.length:Int)<=12)):Bool)) 0 a0 ())
def gd (a0:List ah):Prop:=(bI (2^21) (fun y:ah=>ah.Sm (2^21) y) a0)
def R:=RR gd md
def ak {a0}(h:gd a0):R (a0.map ah.row)=some (md a0):=aM (a:=a0) h
def aV:=CN [pL 38] oB RT.dec R
def bp (a0)(hg:gd a0):∃n,start (iter step n) (a0.map ah.row)=ret (md a0):=by
 unfold gd at hg
 have H0:=hg
 unfold start md
 try simp only [SS]
 have Bh2:a0.length<=maxLen:=(by
   have:=(H0).1
   try simp only [maxLen] at *
   omega)
 refine ex_eq (out:=ret) (cH (z:=ah.zero)) ?_
 refine dG (p:=Pt.p0 (a0.map ah.row) 0) fz ?_
 refine bU (pt:=fun (i1:Nat) (s3:Unit)=>Pt.p0 (a0.map ah.row) (i1:Int)) (s:=(():Unit)) (out:=ret) (fun _ _=>True) (fun J i1 s3 h2 hih2=>?_) (fun s3 hih2=>?_) trivial
 ·simp only [step,SS]
  have bb_:=Bh2
  simp only [maxLen] at bb_
  have:=(H0).1
  refine bk.yes (by apply decide_eq_true;omega) ?_
  refine bk.yes bE ?_
  refine bk.yes (bM h2) ?_
  refine cr (Z80.ak (bI.getD (z:=ah.zero) H0 h2)) ?_
  refine bk.bif (fun _=>bk.inr rfl) (fun c4=>?_)
  have dc4:=c4
  try simp only [DC] at dc4
  refine bk.bif (fun c5=>?_) (fun c5=>?_)
  ·have dc5:=c5
   try simp only [DC] at dc5
   refine bk.yes dt ?_
   refine bk.yes (have:=(H0).1;dt) ?_
   refine bk.yes bE ?_
   refine bk.yes (bM h2) ?_
   refine cr (Z81.ak trivial) ?_
   refine bk.bif (fun _=>bk.inr rfl) (fun c6=>?_)
   refine bk.inl trivial ?_
   rw [aJ h2 Bh2]
   all_goals exact fz
  ·refine bk.inl trivial ?_
   rw [aJ h2 Bh2]
   all_goals exact fz
 ·simp only [step,SS]
  have:=(H0).1
  refine cY (by apply decide_eq_false;omega) ?_
  refine ⟨0,?_⟩
  all_goals exact fz
def af:cq 287 aV:=L1 38 pid cQ cR live step start mix aD bp (.cons Z80.af (.cons Z81.af .nil)) Tryz.func287
end Z82
namespace Z83
inductive Pt where
 | p0 (a:aF) (b:Int) (c:aF)
def pid:Pt->Nat
 | .p0 ..=>3
def cQ:Pt->List V
 | .p0 a b c=>[.sl none 5 a,.own 0,.int .i64 b]
def cR:Pt->List aS
 | .p0 a b c=>[.row 3 c]
def step (J:Pt->aH):Pt->aH
 | .p0 a b c=>(cond (decide (b<(a.length:Int))) (m2 b (a.length:Int) (cK (eO (((c.length:Int)+1)*8)) (J (.p0 a (i64.wrap (b+1)) (c++[[L.int (i64.wrap (jo a (toNat b)))]]))))) (ret (c:aF)))
def start (J:Pt->aH)(x0:aF):aH:=J (.p0 x0 0 [[L.int (x0.length:Int)]])
def live:Nat->Live:=fun i=>match i with | 3=>[(0,none),(3,none),(4,none)] | _=>[]
def md (a0:List Int):List Int:=([(a0.length:Int)]++a0.map (fun (y1:Int)=>(i64.wrap y1)))
def gd (a0:List Int):Prop:=(bI (2^38) (fun y:Int=>True) a0)
def R:=RR gd md
def ak {a0}(h:gd a0):R (a0.map bn)=some ((md a0).map bn):=aM (a:=a0) h
def aV:=CN [pL 5] (oL 3) RT.dec R
def bp (a0)(hg:gd a0):∃n,start (iter step n) (a0.map bn)=ret ((md a0).map bn):=by
 unfold gd at hg
 have H0:=hg
 unfold start md
 try simp only [SS]
 have Bh2:a0.length<=maxLen:=(by
   have:=(H0).1
   try simp only [maxLen] at *
   omega)
 refine ex_eq (out:=(fun b:List Int=>ret ((b.map bn):aF))) (mm (g:=fun (y1:Int)=>(i64.wrap y1)) (z:=0) (t:=fun (s3:List Int)=>s3) (s:=[(a0.length:Int)])) ?_
 refine dG (p:=Pt.p0 (a0.map bn) 0 ([(a0.length:Int)].map bn)) fz ?_
 refine bU (pt:=fun (i1:Nat) (s3:List Int)=>Pt.p0 (a0.map bn) (i1:Int) (s3.map bn)) (s:=([(a0.length:Int)]:List Int)) (out:=(fun b:List Int=>ret ((b.map bn):aF))) (fun (i1:Nat) (s3:List Int)=>s3.length<=[(a0.length:Int)].length+1*i1) (fun J i1 s3 h2 hih2=>?_) (fun s3 hih2=>?_) (by simp)
 ·simp only [step,SS]
  have gr_:=hih2
  try simp only [LN] at gr_
  have:=(H0).1
  have bb_:=Bh2
  simp only [maxLen] at bb_
  have:=(H0).1
  refine bk.yes (by apply decide_eq_true;omega) ?_
  refine bk.yes bE ?_
  refine bk.yes (bM h2) ?_
  refine bk.yes lm ?_
  refine bk.inl (by
    have g_:=hih2
    try simp only [LN] at g_ ⊢
    first | omega | (simp;done) | (simp;omega)) ?_
  rw [aJ h2 Bh2]
  all_goals exact fz
 ·simp only [step,SS]
  have gr_:=hih2
  try simp only [LN] at gr_
  have:=(H0).1
  have:=(H0).1
  refine cY (by apply decide_eq_false;omega) ?_
  refine ⟨0,?_⟩
  all_goals exact fz
def af:cq 373 aV:=L1 23 pid cQ cR live step start mix aD bp .nil Tryz.func373
def len (a0:List Int):(md a0).length=1+a0.length:=by simp [md];omega
end Z83
namespace Z84
def F (x0:aA):aH:=(cK (decide ((x0.size:Int)<=140737488355328)) (call (Z83.R (iu x0)) fun v1=>ret (v1:aF)))
def md (a0:aA):List Int:=(Z83.md (iL a0))
def gd (a0:aA):Prop:=(a0.size<=(2^21))
def R:=RR gd md
def ak {a0}(h:gd a0):R a0=some ((md a0).map bn):=aM (a:=a0) h
def aV:=CN [pS] (oL 3) RT.dec R
def bp (a0)(hg:gd a0):F a0=ret ((md a0).map bn):=by
 unfold gd at hg
 have H0:=hg
 unfold F md
 try simp only [SS]
 refine aN (have:=H0;dt) ?_
 refine cF ((Z83.md (iL a0)).map bn) (rq (Z83.ak (a0:=(iL a0)) ⟨(have:=gL a0;have:=H0;om),fun _ _=>trivial⟩)) ?_
 try simp only [SS]
 all_goals exact fz
def af:cq 343 aV:=W1 6 F mix aD bp (.cons Z83.af .nil) Tryz.func343
def len (a0:aA):(md a0).length=1+a0.size:=by simp [md,Z83.len,gL]
end Z84
namespace Z85
inductive Pt where
 | p0 (a:Int) (b:aW) (c:aF)
def pid:Pt->Nat
 | .p0 ..=>3
def cQ:Pt->List V
 | .p0 a b c=>[.cj 0 0,.own 1,.int .i64 a]
def cR:Pt->List aS
 | .p0 a b c=>[.box [.str b.aQ,.int .i64 b.bL,.int .i64 b.bX,.sl none 9 b.bB],.row 3 c]
def step (J:Pt->aH):Pt->aH
 | .p0 a b c=>(cond (decide (a<(b.bB.length:Int))) (m2 a (b.bB.length:Int) (call (Z84.R (pW b.bB (toNat a))) fun v1=>(cK (eO (((c.length:Int)+(v1.length:Int))*8)) (J (.p0 (i64.wrap (a+1)) b (c++v1)))))) (ret (c:aF)))
def start (J:Pt->aH)(x0:aW):aH:=(call (Z84.R x0.aQ) fun v1=>(cK (eO (((v1.length:Int)+3)*8)) (J (.p0 0 x0 (v1++[[L.int x0.bL],[L.int x0.bX],[L.int (x0.bB.length:Int)]])))))
def live:Nat->Live:=fun i=>match i with | 3=>[(1,none),(3,none),(4,none)] | _=>[]
def md (a0:ah):List Int:=(((Z84.md a0.aQ)++[a0.bL,a0.bX,(a0.bB.length:Int)])++a0.bB.flatMap (fun (y1:aA)=>(Z84.md y1)))
def gd (a0:ah):Prop:=(ah.Sm (2^21) a0)
def R:=RR gd md
def ak {a0}(h:gd a0):R (ah.r a0)=some ((md a0).map bn):=aM (a:=a0) h
def aV:=CN [.agg sX] (oL 3) RT.dec R
def bp (a0)(hg:gd a0):∃n,start (iter step n) (ah.r a0)=ret ((md a0).map bn):=by
 unfold gd at hg
 have H0:=hg
 unfold start md
 try simp only [SS]
 refine cx (Z84.ak H0.1) ?_
 try simp only [SS]
 refine dw (have:=Z84.len a0.aQ;have:=H0.1;lm) ?_
 have Bh2:a0.bB.length<=maxLen:=(by
   have:=(H0.2).1
   try simp only [maxLen] at *
   omega)
 refine ex_eq (out:=(fun b:List Int=>ret ((b.map bn):aF))) (qw (g:=fun (y1:aA)=>(Z84.md y1)) (z:=⟨#[]⟩) (t:=fun (s3:List Int)=>s3) (s:=((Z84.md a0.aQ)++[a0.bL,a0.bX,(a0.bB.length:Int)]))) ?_
 refine dG (p:=Pt.p0 0 (ah.r a0) (((Z84.md a0.aQ)++[a0.bL,a0.bX,(a0.bB.length:Int)]).map bn)) fz ?_
 refine bU (pt:=fun (i1:Nat) (s3:List Int)=>Pt.p0 (i1:Int) (ah.r a0) (s3.map bn)) (s:=(((Z84.md a0.aQ)++[a0.bL,a0.bX,(a0.bB.length:Int)]):List Int)) (out:=(fun b:List Int=>ret ((b.map bn):aF))) (fun (i1:Nat) (s3:List Int)=>s3.length<=4+a0.aQ.size+i1*(2^21+1)) (fun J i1 s3 h2 hih2=>?_) (fun s3 hih2=>?_) (by
   have:=(H0.2).1
   have:=Z84.len a0.aQ
   have:=H0.1
   try simp only [LN]
   try simp
   try omega)
 ·simp only [step,SS]
  have gr_:=hih2
  try simp only [LN] at gr_
  have:=H0.1
  have bb_:=Bh2
  simp only [maxLen] at bb_
  have:=(H0.2).1
  refine bk.yes (by apply decide_eq_true;omega) ?_
  refine bk.yes bE ?_
  refine bk.yes (bM h2) ?_
  refine cr (Z84.ak (bI.getD (z:=⟨#[]⟩) H0.2 h2)) ?_
  try simp only [SS]
  refine bk.yes (have:=Z84.len (a0.bB.getD i1 ⟨#[]⟩);have:=(bI.getD (z:=⟨#[]⟩) H0.2 h2);lm) ?_
  refine bk.inl (by
    have:=Z84.len (a0.bB.getD i1 ⟨#[]⟩)
    have:=(bI.getD (z:=⟨#[]⟩) H0.2 h2)
    have g_:=hih2
    try simp only [LN] at g_ ⊢
    first | omega | (simp;done) | (simp;omega)) ?_
  rw [aJ h2 Bh2]
  all_goals exact fz
 ·simp only [step,SS]
  have gr_:=hih2
  try simp only [LN] at gr_
  have:=H0.1
  have:=(H0.2).1
  refine cY (by apply decide_eq_false;omega) ?_
  refine ⟨0,?_⟩
  all_goals exact fz
def af:cq 312 aV:=L1 33 pid cQ cR live step start mix aD bp (.cons Z84.af .nil) Tryz.func312
def gk {a0:ah}(hg:gd a0):bI (2^43 - 1) (fun y:Int=>True) (md a0):=by
 unfold gd at hg
 refine ⟨?_,fun _ _=>trivial⟩
 unfold md
 have h1:=lH (xs:=a0.bB) (g:=fun y=>Z84.md y) (n:=2^21+1) (fun x hx=>by rw [Z84.len];have:=hg.2.2 x hx;omega)
 have h2:=hg.1
 have h3:=hg.2.1
 have h4:=Z84.len a0.aQ
 simp only [List.length_append,List.length_cons,List.length_nil]
 omega
end Z85
namespace Z86
def F (x0:aW):aH:=(call (Z85.R x0) fun v1=>(cK (eO (((1:Int)+(v1.length:Int))*8)) (call (Z59.R ([[L.int 227]]++v1)) fun v2=>ret (v2:Int))))
def md (a0:ah):Int:=((Z59.md ([227]++(Z85.md a0))):Int)
def gd (a0:ah):Prop:=(ah.Sm (2^21) a0)
def R:=RR gd md
def ak {a0}(h:gd a0):R (ah.r a0)=some (md a0):=aM (a:=a0) h
def aV:=CN [.agg sX] oI RT.dec R
def bp (a0)(hg:gd a0):F (ah.r a0)=ret (md a0):=by
 unfold gd at hg
 have H0:=hg
 unfold F md
 try simp only [SS]
 refine ct (Z85.ak H0) ?_
 try simp only [SS]
 refine aN (have:=((Z85.gk (a0:=a0) H0)).1;lm) ?_
 refine cF (Z59.md ([227]++(Z85.md a0))) (rq (Z59.ak (a0:=([227]++(Z85.md a0))) ⟨(have:=((Z85.gk (a0:=a0) H0)).1;om),fun _ _=>trivial⟩)) ?_
 all_goals exact fz
def af:cq 259 aV:=W1 8 F mix aD bp (.cons Z85.af (.cons Z59.af .nil)) Tryz.func259
end Z86
namespace Z87
inductive Pt where
 | p0 (a:aF) (b:Int) (c:aF)
def pid:Pt->Nat
 | .p0 ..=>3
def cQ:Pt->List V
 | .p0 a b c=>[.sl none 38 a,.own 0,.int .i64 b]
def cR:Pt->List aS
 | .p0 a b c=>[.row 3 c]
def step (J:Pt->aH):Pt->aH
 | .p0 a b c=>(cond (decide (b<(a.length:Int))) (m2 b (a.length:Int) (call (Z86.R (aW.at a (toNat b))) fun v1=>(cK (eO (((c.length:Int)+1)*8)) (J (.p0 a (i64.wrap (b+1)) (c++[[L.int v1]])))))) (ret (c:aF)))
def start (J:Pt->aH)(x0:aF):aH:=J (.p0 x0 0 [])
def live:Nat->Live:=fun i=>match i with | 3=>[(0,none),(3,some 3),(4,none)] | _=>[]
def md (a0:List ah):List Int:=(a0.map (fun (y1:ah)=>(Z86.md y1)))
def gd (a0:List ah):Prop:=(bI (2^21) (fun y:ah=>ah.Sm (2^21) y) a0)
def R:=RR gd md
def ak {a0}(h:gd a0):R (a0.map ah.row)=some ((md a0).map bn):=aM (a:=a0) h
def aV:=CN [pL 38] (oL 3) RT.dec R
def bp (a0)(hg:gd a0):∃n,start (iter step n) (a0.map ah.row)=ret ((md a0).map bn):=by
 unfold gd at hg
 have H0:=hg
 unfold start md
 try simp only [SS]
 have Bh2:a0.length<=maxLen:=(by
   have:=(H0).1
   try simp only [maxLen] at *
   omega)
 refine ex_eq (out:=(fun b:List Int=>ret ((b.map bn):aF))) (mX (g:=fun (y1:ah)=>(Z86.md y1)) (z:=ah.zero) (t:=fun (s3:List Int)=>s3)) ?_
 refine dG (p:=Pt.p0 (a0.map ah.row) 0 ([].map bn)) fz ?_
 refine bU (pt:=fun (i1:Nat) (s3:List Int)=>Pt.p0 (a0.map ah.row) (i1:Int) (s3.map bn)) (s:=([]:List Int)) (out:=(fun b:List Int=>ret ((b.map bn):aF))) (fun (i1:Nat) (s3:List Int)=>s3.length<=([]:List Int).length+1*i1) (fun J i1 s3 h2 hih2=>?_) (fun s3 hih2=>?_) (by simp)
 ·simp only [step,SS]
  have gr_:=hih2
  try simp only [LN] at gr_
  have bb_:=Bh2
  simp only [maxLen] at bb_
  have:=(H0).1
  refine bk.yes (by apply decide_eq_true;omega) ?_
  refine bk.yes bE ?_
  refine bk.yes (bM h2) ?_
  refine cr (Z86.ak (bI.getD (z:=ah.zero) H0 h2)) ?_
  refine bk.yes lm ?_
  refine bk.inl (by
    have g_:=hih2
    try simp only [LN] at g_ ⊢
    first | omega | (simp;done) | (simp;omega)) ?_
  rw [aJ h2 Bh2]
  all_goals exact fz
 ·simp only [step,SS]
  have gr_:=hih2
  try simp only [LN] at gr_
  have:=(H0).1
  refine cY (by apply decide_eq_false;omega) ?_
  refine ⟨0,?_⟩
  all_goals exact fz
def af:cq 286 aV:=L1 21 pid cQ cR live step start mix aD bp (.cons Z86.af .nil) Tryz.func286
def len (a0:List ah):(md a0).length=a0.length:=by simp [md]
end Z87
namespace Z88
def F (x0 x1:Int):aH:=(call (Z59.R [[L.int 229],[L.int x0],[L.int x1]]) fun v1=>ret (v1:Int))
def md (a0 a1:Int):Int:=((Z59.md [229,a0,a1]):Int)
def gd (a0 a1:Int):Prop:=True
def R:=RR (p2 gd) (u2 md)
def ak {a0 a1}(h:gd a0 a1):R (a0,a1)=some (md a0 a1):=aM (a:=(a0,a1)) h
def aV:=CN [pI,pI] oI RT.dec R
def bp (a0)(a1)(hg:gd a0 a1):F a0 a1=ret (md a0 a1):=by
 unfold F md
 try simp only [SS]
 refine cF (Z59.md [229,a0,a1]) (rq (Z59.ak (a0:=[229,a0,a1]) ⟨(om),fun _ _=>trivial⟩)) ?_
 all_goals exact fz
def af:cq 310 aV:=W2 9 F mix aD bp (.cons Z59.af .nil) Tryz.func310
end Z88
namespace Z89
inductive Pt where
 | p0 (a:aF) (b:Int) (c:aF)
def pid:Pt->Nat
 | .p0 ..=>3
def cQ:Pt->List V
 | .p0 a b c=>[.sl none 3 a,.own 0,.int .i64 b]
def cR:Pt->List aS
 | .p0 a b c=>[.row 3 c]
def step (J:Pt->aH):Pt->aH
 | .p0 a b c=>(cond (decide (b<(a.length:Int))) (cond (decide ((i64.wrap (b+1))<(a.length:Int))) (m2 b (a.length:Int) (cK (decide ((0:Int)<=(i64.wrap (b+1)))) (cK (decide ((i64.wrap (b+1))<(a.length:Int))) (call (Z88.R ((jo a (toNat b)),(jo a (toNat (i64.wrap (b+1)))))) fun v1=>(cK (eO (((c.length:Int)+1)*8)) (J (.p0 a (i64.wrap (b+2)) (c++[[L.int v1]])))))))) (m2 b (a.length:Int) (cK (eO (((c.length:Int)+1)*8)) (J (.p0 a (i64.wrap (b+2)) (c++[[L.int (jo a (toNat b))]])))))) (ret (c:aF)))
def start (J:Pt->aH)(x0:aF):aH:=J (.p0 x0 0 [])
def live:Nat->Live:=fun i=>match i with | 3=>[(0,none),(3,some 3),(4,none)] | _=>[]
def up:List Int->List Int
 | []=>[]
 | [a]=>[a]
 | a::b::r=>Z88.md a b::up r
def jU:∀l:List Int,(up l).length=(l.length+1) / 2
 | []=>by simp [up]
 | [_]=>by simp [up]
 | _::_::r=>by
  have:=jU r
  simp only [up,List.length_cons]
  omega
def md (a0:List Int):List Int:=up a0
def gd (a0:List Int):Prop:=bI (2^38) (fun y:Int=>True) a0
def R:=RR gd md
def ak {a0}(h:gd a0):R (a0.map bn)=some ((md a0).map bn):=aM (a:=a0) h
def aV:=CN [pL 3] (oL 3) RT.dec R
def bp (a0)(hg:gd a0):∃n,start (iter step n) (a0.map bn)=ret ((md a0).map bn):=by
 obtain ⟨H1,_⟩:=hg
 have key:∀(k i:Nat) (c:List Int),i+k=a0.length->c.length<=i->∃n,iter step n (Pt.p0 (a0.map bn) (i:Int) (c.map bn))=ret ((c++up (a0.drop i)).map bn:aF):=by
  intro k
  induction k using Nat.strongRecOn with
  | _ k ih=>
  intro i c hi hc
  match k,hi,ih with
  | 0,hi,_=>
   refine ⟨1,?_⟩
   show step (iter step 0) (Pt.p0 _ _ _)=_
   simp only [step,List.length_map]
   refine eE (decide_eq_false (by omega)) ?_
   rw [List.drop_eq_nil_of_le (by omega)]
   simp only [up,List.append_nil]
  | 1,hi,ih=>
   obtain ⟨n,hn⟩:=ih 0 (by omega) (i+1) (c++[a0.getD i 0]) (by omega) (by simp;omega)
   have h2:∃n,iter step n (Pt.p0 (a0.map bn) (i64.wrap ((i:Int)+2)) ((c++[a0.getD i 0]).map bn))=ret ((c++[a0.getD i 0]).map bn:aF):=by
    refine ⟨1,?_⟩
    show step (iter step 0) (Pt.p0 _ _ _)=_
    simp only [step,List.length_map]
    refine eE (decide_eq_false ?_) rfl
    rw [Go.IntWalk.i64_in _ (by omega)];omega
   obtain ⟨n,hn⟩:=h2
   refine ⟨n+1,?_⟩
   show step (iter step n) (Pt.p0 _ _ _)=_
   simp only [step,List.length_map,cP,gG]
   refine aN (decide_eq_true (by omega)) (eE (decide_eq_false ?_) (aN (decide_eq_true (by omega)) (aN (decide_eq_true (by omega)) (aN (gX (by omega)) ?_))))
   ·rw [Go.IntWalk.i64_in _ (by omega)];omega
   ·rw [List.map_append] at hn
    refine Eq.trans hn ?_
    rw [List.drop_eq_getElem_cons (by omega),List.drop_eq_nil_of_le (by omega),eU (by omega:i<a0.length)]
    simp only [up,List.map_append]
  | k+2,hi,ih=>
   obtain ⟨n,hn⟩:=ih k (by omega) (i+2) (c++[Z88.md (a0.getD i 0) (a0.getD (i+1) 0)]) (by omega) (by simp;omega)
   refine ⟨n+1,?_⟩
   show step (iter step n) (Pt.p0 _ _ _)=_
   have w1:i64.wrap ((i:Int)+1)=((i+1:Nat):Int):=by rw [Go.IntWalk.i64_in _ (by omega)];omega
   have w2:i64.wrap ((i:Int)+2)=((i+2:Nat):Int):=by rw [Go.IntWalk.i64_in _ (by omega)];omega
   simp only [step,List.length_map,w1,w2,cP,gG]
   refine aN (decide_eq_true (by omega)) (aN (decide_eq_true (by omega)) (aN (decide_eq_true (by omega)) (aN (decide_eq_true (by omega)) (aN (decide_eq_true (by omega)) (aN (decide_eq_true (by omega)) ?_)))))
   refine cF (Z88.md (a0.getD i 0) (a0.getD (i+1) 0)) (Z88.ak trivial) (aN (gX (by omega)) ?_)
   rw [List.map_append] at hn
   refine Eq.trans hn ?_
   rw [List.drop_eq_getElem_cons (by omega:i<a0.length),List.drop_eq_getElem_cons (by omega:i+1<a0.length),eU (by omega:i<a0.length),eU (by omega:i+1<a0.length)]
   simp only [up,List.append_assoc,List.cons_append,List.nil_append]
 have:=key a0.length 0 [] (by omega) (by simp)
 unfold start md
 simpa using this
def af:cq 328 aV:=L1 38 pid cQ cR live step start mix aD bp (.cons Z88.af .nil) Tryz.func328
end Z89
namespace Z90
inductive Pt where
 | p0 (a:aF)
 | p1 (a:aF)
def pid:Pt->Nat
 | .p0 ..=>4
 | .p1 ..=>4
def cQ:Pt->List V
 | .p0 a=>[.sl none 3 a]
 | .p1 a=>[.own 0]
def cR:Pt->List aS
 | .p0 a=>[]
 | .p1 a=>[.row 3 a]
def step (J:Pt->aH):Pt->aH
 | .p0 a=>(cond (decide ((a.length:Int)>1)) (call (Z89.R a) fun v1=>J (.p1 v1)) (cK (decide ((0:Int)<(a.length:Int))) (ret ((jo a 0):Int))))
 | .p1 a=>(cond (decide ((a.length:Int)>1)) (call (Z89.R a) fun v1=>J (.p1 v1)) (cK (decide ((0:Int)<(a.length:Int))) (ret ((jo a 0):Int))))
def start (J:Pt->aH)(x0:aF):aH:=(cond ((x0.length:Int)==0) (call (Z59.R [[L.int 229]]) fun v1=>ret (v1:Int)) (J (.p0 x0)))
def live:Nat->Live:=fun i=>match i with | 4=>[(3,none)] | _=>[]
def top:Nat->List Int->Int
 | 0,l=>l.getD 0 0
 | k+1,l=>if l.length>1 then top k (Z89.up l) else l.getD 0 0
def md (a0:List Int):Int:=(if a0.length=0 then Z59.md [229] else top a0.length a0)
def gd (a0:List Int):Prop:=bI (2^38) (fun y:Int=>True) a0
def R:=RR gd md
def ak {a0}(h:gd a0):R (a0.map bn)=some (md a0):=aM (a:=a0) h
def aV:=CN [pL 3] oI RT.dec R
def bp (a0)(hg:gd a0):∃n,start (iter step n) (a0.map bn)=ret (md a0):=by
 have one:∀(l:List Int) (r:Int) (n:Nat),bI (2^38) (fun y:Int=>True) l->0<l.length->(if l.length>1 then iter step n (Pt.p1 ((Z89.up l).map bn))=ret r else ret (l.getD 0 0:Int)=ret r)->step (iter step n) (Pt.p0 (l.map bn))=ret r/\step (iter step n) (Pt.p1 (l.map bn))=ret r:=by
  intro l r n hl hp h
  simp only [step,List.length_map,gG]
  by_cases h1:l.length>1
  ·rw [if_pos h1] at h
   have hx:∀y:aH,(cond (decide ((l.length:Int)>1)) (call (Z89.R (l.map bn)) (fun v1=>iter step n (Pt.p1 v1))) y)=ret r:=fun y=>
    aN (decide_eq_true (by omega)) (cF ((Z89.up l).map bn) (Z89.ak hl) h)
   exact ⟨hx _,hx _⟩
  ·rw [if_neg h1] at h
   have hx:∀y:aH,(cond (decide ((l.length:Int)>1)) y (cond (decide ((0:Int)<(l.length:Int))) (ret (l.getD 0 0:Int)) none))=ret r:=fun y=>
    eE (decide_eq_false (by omega)) (aN (decide_eq_true (by omega)) h)
   exact ⟨hx _,hx _⟩
 have key:∀(k:Nat) (l:List Int),bI (2^38) (fun y:Int=>True) l->0<l.length->l.length<=k+1->∃n,step (iter step n) (Pt.p0 (l.map bn))=ret (top k l)/\step (iter step n) (Pt.p1 (l.map bn))=ret (top k l):=by
  intro k
  induction k with
  | zero=>
   intro l hl hp hk
   exact ⟨0,one l _ 0 hl hp (by rw [if_neg (by omega)];rfl)⟩
  | succ k ih=>
   intro l hl hp hk
   by_cases h1:l.length>1
   ·have hu:=Z89.jU l
    have hl1:=hl.1
    obtain ⟨n,_,hn⟩:=ih (Z89.up l) ⟨by omega,fun _ _=>trivial⟩ (by omega) (by omega)
    refine ⟨n+1,one l _ (n+1) hl hp ?_⟩
    rw [if_pos h1]
    refine Eq.trans hn ?_
    unfold top
    rw [if_pos h1]
    cases k<;>rfl
   ·refine ⟨0,one l _ 0 hl hp ?_⟩
    rw [if_neg h1]
    unfold top
    rw [if_neg h1]
 unfold md
 unfold start
 simp only [List.length_map]
 by_cases h0:a0.length=0
 ·have e:((a0.length:Int)==0)=true:=by simpa using List.length_eq_zero_iff.1 h0
  refine ⟨0,?_⟩
  rw [e]
  refine cF (Z59.md [229]) (Z59.ak (a0:=[229]) ⟨by decide,fun _ _=>trivial⟩) ?_
  rw [if_pos h0]
 ·have e:((a0.length:Int)==0)=false:=beq_eq_false_iff_ne.2 (by omega)
  obtain ⟨n,hn,_⟩:=key a0.length a0 hg (by omega) (by omega)
  refine ⟨n+1,?_⟩
  rw [e,if_neg h0]
  exact hn
def af:cq 314 aV:=L1 18 pid cQ cR live step start mix aD bp (.cons Z59.af (.cons Z89.af .nil)) Tryz.func314
end Z90
namespace Z91
def F (x0 x1:Int):aH:=(call (Z59.R [[L.int 231],[L.int x0],[L.int x1]]) fun v1=>ret (v1:Int))
def md (a0 a1:Int):Int:=((Z59.md [231,a0,a1]):Int)
def gd (a0 a1:Int):Prop:=True
def R:=RR (p2 gd) (u2 md)
def ak {a0 a1}(h:gd a0 a1):R (a0,a1)=some (md a0 a1):=aM (a:=(a0,a1)) h
def aV:=CN [pI,pI] oI RT.dec R
def bp (a0)(a1)(hg:gd a0 a1):F a0 a1=ret (md a0 a1):=by
 unfold F md
 try simp only [SS]
 refine cF (Z59.md [231,a0,a1]) (rq (Z59.ak (a0:=[231,a0,a1]) ⟨(om),fun _ _=>trivial⟩)) ?_
 all_goals exact fz
def af:cq 261 aV:=W2 9 F mix aD bp (.cons Z59.af .nil) Tryz.func261
end Z91
namespace Z92
def F (x0:aF):aH:=(call (Z87.R x0) fun v1=>(call (Z90.R v1) fun v2=>(call (Z91.R ((x0.length:Int),v2)) fun v3=>ret (v3:Int))))
def md (a0:List ah):Int:=((Z91.md (a0.length:Int) (Z90.md (Z87.md a0))):Int)
def gd (a0:List ah):Prop:=(bI (2^21) (fun y:ah=>ah.Sm (2^21) y) a0)
def R:=RR gd md
def ak {a0}(h:gd a0):R (a0.map ah.row)=some (md a0):=aM (a:=a0) h
def aV:=CN [pL 38] oI RT.dec R
def bp (a0)(hg:gd a0):F (a0.map ah.row)=ret (md a0):=by
 unfold gd at hg
 have H0:=hg
 unfold F md
 try simp only [SS]
 refine ct (Z87.ak H0) ?_
 try simp only [SS]
 refine ct (Z90.ak ⟨(have:=Z87.len a0;have:=(H0).1;om),fun _ _=>trivial⟩) ?_
 refine ct (Z91.ak trivial) ?_
 all_goals exact fz
def af:cq 264 aV:=W1 9 F mix aD bp (.cons Z87.af (.cons Z90.af (.cons Z91.af .nil))) Tryz.func264
end Z92
namespace Z93
def F (x0:Int)(x1:aF):aH:=(call (Z82.R x1) fun v1=>(cond v1 (call (Z92.R x1) fun v2=>ret ((v2==x0):Bool)) bf))
def md (a0:Int)(a1:List ah):Bool:=(cond (Z82.md a1) (((Z92.md a1)==a0):Bool) (false:Bool))
def gd (a0:Int)(a1:List ah):Prop:=(bI (2^21) (fun y:ah=>ah.Sm (2^21) y) a1)
def R:=RR (p2 gd) (u2 md)
def ak {a0 a1}(h:gd a0 a1):R (a0,(a1.map ah.row))=some (md a0 a1):=aM (a:=(a0,a1)) h
def aV:=CN [pI,pL 38] oB RT.dec R
def bp (a0)(a1)(hg:gd a0 a1):F a0 (a1.map ah.row)=ret (md a0 a1):=by
 unfold gd at hg
 have H1:=hg
 unfold F md
 try simp only [SS]
 refine ct (Z82.ak H1) ?_
 refine aq ret (fun c1=>?_) (fun _=>rfl)
 refine ct (Z92.ak H1) ?_
 all_goals exact fz
def af:cq 284 aV:=W2 13 F mix aD bp (.cons Z82.af (.cons Z92.af .nil)) Tryz.func284
end Z93
namespace Z94
def F (x0:eV):aH:=(call (Z79.R x0.aP) fun v1=>(cond v1.2 (cond (v1.1.cB==(x0.cz.length:Int)) (call (Z93.R (v1.1.dg,x0.cz)) fun v2=>ret (v2:Bool)) bf) bf))
def md (a0:bA):Bool:=(cond ((Z79.md a0.aP).2) (cond ((Z79.md a0.aP).1.cB==(a0.cz.length:Int)) ((Z93.md ((Z79.md a0.aP).1.dg) a0.cz):Bool) (false:Bool)) (false:Bool))
def gd (a0:bA):Prop:=(bA.Sm (2^21) a0)
def R:=RR gd md
def ak {a0}(h:gd a0):R (bA.r a0)=some (md a0):=aM (a:=a0) h
def aV:=CN [.agg vI] oB RT.dec R
def bp (a0)(hg:gd a0):F (bA.r a0)=ret (md a0):=by
 unfold gd at hg
 have H0:=hg
 unfold F md
 try simp only [SS]
 refine ct (Z79.ak H0.1) ?_
 try simp only [SS]
 refine aq ret (fun c1=>?_) (fun _=>rfl)
 refine aq ret (fun c2=>?_) (fun _=>rfl)
 refine ct (Z93.ak H0.2) ?_
 all_goals exact fz
def af:cq 230 aV:=W1 27 F mix aD bp (.cons Z79.af (.cons Z93.af .nil)) Tryz.func230
end Z94
namespace Z95
def F (x0:eV):aH:=(call (Z79.R x0.aP) fun v1=>(call (Z94.R x0) fun v2=>(cond (!v2) (ret ((-1):Int)) (ret (v1.1.bw:Int)))))
def md (a0:bA):Int:=(cond (!(Z94.md a0)) ((-1):Int) ((Z79.md a0.aP).1.bw:Int))
def gd (a0:bA):Prop:=(bA.Sm (2^21) a0)
def R:=RR gd md
def ak {a0}(h:gd a0):R (bA.r a0)=some (md a0):=aM (a:=a0) h
def aV:=CN [.agg vI] oI RT.dec R
def bp (a0)(hg:gd a0):F (bA.r a0)=ret (md a0):=by
 unfold gd at hg
 have H0:=hg
 unfold F md
 try simp only [SS]
 refine ct (Z79.ak H0.1) ?_
 try simp only [SS]
 refine ct (Z94.ak H0) ?_
 refine aq ret (fun _=>rfl) (fun c1=>?_)
 all_goals exact fz
def af:cq 229 aV:=W1 16 F mix aD bp (.cons Z79.af (.cons Z94.af .nil)) Tryz.func229
end Z95
namespace Z96
inductive Pt where
 | p0 (a b:Int) (c:dR)
def pid:Pt->Nat
 | .p0 ..=>2
def cQ:Pt->List V
 | .p0 a b c=>[.int .i64 a,.cj 0 0,.int .i64 b]
def cR:Pt->List aS
 | .p0 a b c=>[.box [.sl none 215 c.bY,.int .i64 c.iQ]]
def step (J:Pt->aH):Pt->aH
 | .p0 a b c=>(cond (decide (b<(c.bY.length:Int))) (m2 b (c.bY.length:Int) (call (Z95.R (eV.at c.bY (toNat b))) fun v1=>(cond (v1==a) (cond (decide (a>=0)) (ret (b:Int)) (J (.p0 a (i64.wrap (b+1)) c))) (J (.p0 a (i64.wrap (b+1)) c))))) (ret ((-1):Int)))
def start (J:Pt->aH)(x0:dR)(x1:Int):aH:=J (.p0 x1 0 x0)
def live:Nat->Live:=fun i=>match i with | 2=>[(1,none),(2,none),(5,none)] | _=>[]
def md (a0:aR)(a1:Int):Int:=(dF (S:=Unit) (β:=Int) (fun (i1:Nat) (y1:bA) (s3:Unit)=>(cond ((Z95.md y1)==a1) (cond (decide (a1>=0)) (.inr ((i1:Int):Int)) (.inl ())) (.inl ()))) (fun (s3:Unit)=>((-1):Int)) 0 a0.bY ())
def gd (a0:aR)(a1:Int):Prop:=(aR.Sm (2^21) a0)
def R:=RR (p2 gd) (u2 md)
def ak {a0 a1}(h:gd a0 a1):R ((aR.r a0),a1)=some (md a0 a1):=aM (a:=(a0,a1)) h
def aV:=CN [.agg AD,pI] oI RT.dec R
def bp (a0)(a1)(hg:gd a0 a1):∃n,start (iter step n) (aR.r a0) a1=ret (md a0 a1):=by
 unfold gd at hg
 have H0:=hg
 unfold start md
 try simp only [SS]
 have Bh2:a0.bY.length<=maxLen:=(by
   have:=(H0).1
   try simp only [maxLen] at *
   omega)
 refine ex_eq (out:=ret) (cH (z:=bA.zero)) ?_
 refine dG (p:=Pt.p0 a1 0 (aR.r a0)) fz ?_
 refine bU (pt:=fun (i1:Nat) (s3:Unit)=>Pt.p0 a1 (i1:Int) (aR.r a0)) (s:=(():Unit)) (out:=ret) (fun _ _=>True) (fun J i1 s3 h2 hih2=>?_) (fun s3 hih2=>?_) trivial
 ·simp only [step,SS]
  have bb_:=Bh2
  simp only [maxLen] at bb_
  have:=(H0).1
  refine bk.yes (by apply decide_eq_true;omega) ?_
  refine bk.yes bE ?_
  refine bk.yes (bM h2) ?_
  refine cr (Z95.ak (bI.getD (z:=bA.zero) H0 h2)) ?_
  refine bk.bif (fun c4=>?_) (fun c4=>?_)
  ·refine bk.bif (fun c5=>?_) (fun c5=>?_)
   ·refine bk.inr ?_
    all_goals exact fz
   ·refine bk.inl trivial ?_
    rw [aJ h2 Bh2]
    all_goals exact fz
  ·refine bk.inl trivial ?_
   rw [aJ h2 Bh2]
   all_goals exact fz
 ·simp only [step,SS]
  have:=(H0).1
  refine cY (by apply decide_eq_false;omega) ?_
  refine ⟨0,?_⟩
  all_goals exact fz
def af:cq 176 aV:=L2 26 pid cQ cR live step start mix aD bp (.cons Z95.af .nil) Tryz.func176
def fa (a0:aR)(a1:Int):-1<=md a0 a1/\md a0 a1<(a0.bY.length:Int):=by
 unfold md
 refine fF ?_ _ _
 all_goals
  intro i x s b h
  revert h
  simp only [Bool.cond_eq_ite]
  repeat' split
  all_goals (intro h;first | (cases h;rfl) | cases h)
end Z96
namespace Z97
inductive Pt where
 | p0 (a:aF) (b:aA) (c:Int)
def pid:Pt->Nat
 | .p0 ..=>2
def cQ:Pt->List V
 | .p0 a b c=>[.sl none 38 a,.str b,.int .i64 c]
def cR:Pt->List aS
 | .p0 a b c=>[]
def step (J:Pt->aH):Pt->aH
 | .p0 a b c=>(cond (decide (c<(a.length:Int))) (m2 c (a.length:Int) (cond ((aW.at a (toNat c)).aQ==b) (ret (c:Int)) (J (.p0 a b (i64.wrap (c+1)))))) (ret ((-1):Int)))
def start (J:Pt->aH)(x0:aF)(x1:aA):aH:=J (.p0 x0 x1 0)
def live:Nat->Live:=fun i=>match i with | 2=>[(0,none),(1,none),(5,none)] | _=>[]
def md (a0:List ah)(a1:aA):Int:=(dF (S:=Unit) (β:=Int) (fun (i1:Nat) (y1:ah) (s3:Unit)=>(cond (y1.aQ==a1) (.inr ((i1:Int):Int)) (.inl ()))) (fun (s3:Unit)=>((-1):Int)) 0 a0 ())
def gd (a0:List ah)(a1:aA):Prop:=(bI (2^21) (fun y:ah=>ah.Sm (2^21) y) a0)
def R:=RR (p2 gd) (u2 md)
def ak {a0 a1}(h:gd a0 a1):R ((a0.map ah.row),a1)=some (md a0 a1):=aM (a:=(a0,a1)) h
def aV:=CN [pL 38,pS] oI RT.dec R
def bp (a0)(a1)(hg:gd a0 a1):∃n,start (iter step n) (a0.map ah.row) a1=ret (md a0 a1):=by
 unfold gd at hg
 have H0:=hg
 unfold start md
 try simp only [SS]
 have Bh2:a0.length<=maxLen:=(by
   have:=(H0).1
   try simp only [maxLen] at *
   omega)
 refine ex_eq (out:=ret) (cH (z:=ah.zero)) ?_
 refine dG (p:=Pt.p0 (a0.map ah.row) a1 0) fz ?_
 refine bU (pt:=fun (i1:Nat) (s3:Unit)=>Pt.p0 (a0.map ah.row) a1 (i1:Int)) (s:=(():Unit)) (out:=ret) (fun _ _=>True) (fun J i1 s3 h2 hih2=>?_) (fun s3 hih2=>?_) trivial
 ·simp only [step,SS]
  have bb_:=Bh2
  simp only [maxLen] at bb_
  have:=(H0).1
  refine bk.yes (by apply decide_eq_true;omega) ?_
  refine bk.yes bE ?_
  refine bk.yes (bM h2) ?_
  refine bk.bif (fun c4=>?_) (fun c4=>?_)
  ·refine bk.inr ?_
   all_goals exact fz
  ·refine bk.inl trivial ?_
   rw [aJ h2 Bh2]
   all_goals exact fz
 ·simp only [step,SS]
  have:=(H0).1
  refine cY (by apply decide_eq_false;omega) ?_
  refine ⟨0,?_⟩
  all_goals exact fz
def af:cq 231 aV:=L2 20 pid cQ cR live step start mix aD bp .nil Tryz.func231
def fa (a0:List ah)(a1:aA):-1<=md a0 a1/\md a0 a1<(a0.length:Int):=by
 unfold md
 refine fF ?_ _ _
 all_goals
  intro i x s b h
  revert h
  simp only [Bool.cond_eq_ite]
  repeat' split
  all_goals (intro h;first | (cases h;rfl) | cases h)
end Z97
namespace Z98
inductive Pt where
 | p0 (a:Int) (b c:aF)
 | p1 (a:Int) (b c:aF)
def pid:Pt->Nat
 | .p0 ..=>5
 | .p1 ..=>5
def cQ:Pt->List V
 | .p0 a b c=>[.int .i64 a,.own 0,.sl none 3 b]
 | .p1 a b c=>[.int .i64 a,.own 0,.own 1]
def cR:Pt->List aS
 | .p0 a b c=>[.row 3 c]
 | .p1 a b c=>[.row 3 b,.row 3 c]
def step (J:Pt->aH):Pt->aH
 | .p0 a b c=>(cond (decide ((b.length:Int)>1)) (cond (decide ((i64.wrap ((i64.wrap (a+1)) - (i64.wrap (2*(Int.tmod a 2)))))<(b.length:Int))) (cK (decide ((0:Int)<=(i64.wrap ((i64.wrap (a+1)) - (i64.wrap (2*(Int.tmod a 2))))))) (cK (decide ((i64.wrap ((i64.wrap (a+1)) - (i64.wrap (2*(Int.tmod a 2)))))<(b.length:Int))) (cK (eO (((c.length:Int)+1)*8)) (call (Z89.R b) fun v1=>J (.p1 (i64.wrap (Int.tdiv a 2)) (c++[[L.int (jo b (toNat (i64.wrap ((i64.wrap (a+1)) - (i64.wrap (2*(Int.tmod a 2)))))))]]) v1))))) (call (Z89.R b) fun v2=>J (.p1 (i64.wrap (Int.tdiv a 2)) c v2))) (ret (c:aF)))
 | .p1 a b c=>(cond (decide ((c.length:Int)>1)) (cond (decide ((i64.wrap ((i64.wrap (a+1)) - (i64.wrap (2*(Int.tmod a 2)))))<(c.length:Int))) (cK (decide ((0:Int)<=(i64.wrap ((i64.wrap (a+1)) - (i64.wrap (2*(Int.tmod a 2))))))) (cK (decide ((i64.wrap ((i64.wrap (a+1)) - (i64.wrap (2*(Int.tmod a 2)))))<(c.length:Int))) (cK (eO (((b.length:Int)+1)*8)) (call (Z89.R c) fun v1=>J (.p1 (i64.wrap (Int.tdiv a 2)) (b++[[L.int (jo c (toNat (i64.wrap ((i64.wrap (a+1)) - (i64.wrap (2*(Int.tmod a 2)))))))]]) v1))))) (call (Z89.R c) fun v2=>J (.p1 (i64.wrap (Int.tdiv a 2)) b v2))) (ret (b:aF)))
def start (J:Pt->aH)(x0:aF)(x1:Int):aH:=(call (Z49.R (x1,0,(i64.wrap ((x0.length:Int) - 1)))) fun v1=>(cond (!v1) (ret ([]:aF)) (J (.p0 x1 x0 []))))
def live:Nat->Live:=fun i=>match i with | 5=>[(1,none),(5,some 3),(6,none)] | _=>[]
def vG (i:Nat):Nat:=if i % 2=0 then i+1 else i - 1
def vE (i:Nat)(l c:List Int):List Int:=if vG i<l.length then c++[l.getD (vG i) 0] else c
def zo:Nat->Nat->List Int->List Int->List Int
 | 0,_,_,c=>c
 | k+1,i,l,c=>if l.length>1 then zo k (i / 2) (Z89.up l) (vE i l c) else c
def tj:∀(k i:Nat) (l c:List Int),(zo k i l c).length<=c.length+k
 | 0,_,_,c=>Nat.le_refl _
 | k+1,i,l,c=>by
  unfold zo
  by_cases h:l.length>1
  ·rw [if_pos h]
   have:=tj k (i / 2) (Z89.up l) (vE i l c)
   have h2:(vE i l c).length<=c.length+1:=by unfold vE;split<;>simp
   omega
  ·rw [if_neg h];omega
def half (i:Nat)(h:i<2^40):i64.wrap (Int.tdiv (i:Int) 2)=((i / 2:Nat):Int):=by
 rw [show Int.tdiv (i:Int) 2=((i / 2:Nat):Int) from rfl,wi _ (by omega)]
def A5 (i:Nat)(h:i<2^40):i64.wrap (i64.wrap ((i:Int)+1) - i64.wrap (2*Int.tmod (i:Int) 2))=((vG i:Nat):Int):=by
 rw [show Int.tmod (i:Int) 2=((i % 2:Nat):Int) from rfl,wi ((i:Int)+1) (by omega),wi (2*((i % 2:Nat):Int)) (by omega),wi _ (by omega)]
 unfold vG
 split<;>omega
def md (a0:List Int)(a1:Int):List Int:=bif Z49.md a1 0 (i64.wrap ((a0.length:Int) - 1)) then zo a0.length a1.toNat a0 [] else []
def gd (a0:List Int)(a1:Int):Prop:=bI (2^38) (fun y:Int=>True) a0
def R:=RR (p2 gd) (u2 md)
def ak {a0 a1}(h:gd a0 a1):R ((a0.map bn),a1)=some ((md a0 a1).map bn):=aM (a:=(a0,a1)) h
def aV:=CN [pL 3,pI] (oL 3) RT.dec R
def bp (a0)(a1)(hg:gd a0 a1):∃n,start (iter step n) (a0.map bn) a1=ret ((md a0 a1).map bn):=by
 have one:∀(i:Nat) (l c r:List Int) (n:Nat),bI (2^38) (fun y:Int=>True) l->i<2^40->c.length<2^40->(if l.length>1 then iter step n (Pt.p1 ((i / 2:Nat):Int) ((vE i l c).map bn) ((Z89.up l).map bn))=ret (r.map bn) else c=r)->
   step (iter step n) (Pt.p0 (i:Int) (l.map bn) (c.map bn))=ret (r.map bn)/\step (iter step n) (Pt.p1 (i:Int) (c.map bn) (l.map bn))=ret (r.map bn):=by
  intro i l c r n hl hi hc h
  have hs:=A5 i hi
  have hd:=half i hi
  refine ⟨?_,?_⟩
  all_goals
   simp only [step,MM,List.length_map,gG,hs,hd,cP]
   by_cases h1:l.length>1
   ·rw [if_pos h1] at h
    rw [decide_eq_true (show (l.length:Int)>1 by omega),aZ]
    by_cases h2:vG i<l.length
    ·rw [vE,if_pos h2,List.map_append] at h
     rw [decide_eq_true (show ((vG i:Nat):Int)<(l.length:Int) by omega),aZ,decide_eq_true (show (0:Int)<=((vG i:Nat):Int) by omega),aZ,aZ,gX (by omega),aZ]
     exact cF ((Z89.up l).map bn) (Z89.ak hl) h
    ·rw [vE,if_neg h2] at h
     rw [decide_eq_false (show ¬((vG i:Nat):Int)<(l.length:Int) by omega),bh]
     exact cF ((Z89.up l).map bn) (Z89.ak hl) h
   ·rw [if_neg h1] at h
    rw [decide_eq_false (show ¬(l.length:Int)>1 by omega),bh,h]
 have key:∀(k i:Nat) (l c:List Int),bI (2^38) (fun y:Int=>True) l->l.length<=k->i<2^40->c.length+k<2^40->
   ∃n,step (iter step n) (Pt.p0 (i:Int) (l.map bn) (c.map bn))=ret ((zo k i l c).map bn)/\step (iter step n) (Pt.p1 (i:Int) (c.map bn) (l.map bn))=ret ((zo k i l c).map bn):=by
  intro k
  induction k with
  | zero=>intro i l c hl hk hi hc;exact ⟨0,one i l c _ 0 hl hi (by omega) (by rw [if_neg (by omega)];rfl)⟩
  | succ k ih=>
   intro i l c hl hk hi hc
   unfold zo
   by_cases h1:l.length>1
   ·have hu:=Z89.jU l
    have hl1:=hl.1
    have h2:(vE i l c).length<=c.length+1:=by unfold vE;split<;>simp
    obtain ⟨n,_,hn⟩:=ih (i / 2) (Z89.up l) (vE i l c) ⟨by omega,fun _ _=>trivial⟩ (by omega) (by omega) (by omega)
    rw [if_pos h1]
    exact ⟨n+1,one i l c _ (n+1) hl hi (by omega) (by rw [if_pos h1];exact hn)⟩
   ·rw [if_neg h1]
    exact ⟨0,one i l c _ 0 hl hi (by omega) (by rw [if_neg h1])⟩
 unfold gd at hg
 unfold start md
 simp only [List.length_map]
 have hlen:=hg.1
 cases h:Z49.md a1 0 (i64.wrap ((a0.length:Int) - 1))
 ·exact ⟨0,cF false (by rw [<-h];exact Z49.ak trivial) rfl⟩
 ·have hh:=h
  rw [wi _ (by omega)] at hh
  simp [Z49.md] at hh
  obtain ⟨i,rfl⟩:=Int.eq_ofNat_of_zero_le hh.1
  obtain ⟨n,hn,_⟩:=key a0.length i a0 [] hg (Nat.le_refl _) (by omega) (by simp only [List.length_nil];omega)
  exact ⟨n+1,cF true (by rw [<-h];exact Z49.ak trivial) hn⟩
def af:cq 285 aV:=L2 42 pid cQ cR live step start mix aD bp (.cons Z49.af (.cons Z89.af .nil)) Tryz.func285
def len (a0:List Int)(a1:Int):(md a0 a1).length<=a0.length:=by
 unfold md
 cases Z49.md _ 0 _
 ·exact zero_le _
 ·exact le_trans (tj _ _ _ _) (by simp)
end Z98
namespace Z99
def F (x0:aF)(x1:aA):aH:=(call (Z97.R (x0,x1)) fun v1=>(cond (decide (v1<0)) (ret (((⟨0,[]⟩:bH),false):bH×Bool)) (call (Z87.R x0) fun v2=>(call (Z98.R (v2,v1)) fun v3=>ret (((⟨v1,v3⟩:bH),true):bH×Bool)))))
def md (a0:List ah)(a1:aA):aB×Bool:=(cond (decide ((Z97.md a0 a1)<0)) ((⟨0,[]⟩:aB),false) ((⟨(Z97.md a0 a1),(Z98.md (Z87.md a0) (Z97.md a0 a1))⟩:aB),true))
def gd (a0:List ah)(a1:aA):Prop:=(bI (2^21) (fun y:ah=>ah.Sm (2^21) y) a0)
def R:=RR (p2 gd) (u2 md)
def ak {a0 a1}(h:gd a0 a1):R ((a0.map ah.row),a1)=some ((aB.r (md a0 a1).1),(md a0 a1).2):=aM (a:=(a0,a1)) h
def aV:=CN [pL 38,pS] (.hU [(true,f122),(false,[fB])]) RT.dec R
def bp (a0)(a1)(hg:gd a0 a1):F (a0.map ah.row) a1=ret ((aB.r (md a0 a1).1),(md a0 a1).2):=by
 unfold gd at hg
 have H0:=hg
 unfold F md
 try simp only [SS]
 refine ct (Z97.ak H0) ?_
 have fv1_:=Z97.fa a0 a1
 refine aq (fun b:aB×Bool=>ret (((aB.r b.1),b.2):bH×Bool)) (fun c1=>?_) (fun c1=>?_)
 ·all_goals exact fz
 ·have dc1:=c1
  try simp only [DC] at dc1
  refine ct (Z87.ak H0) ?_
  try simp only [SS]
  refine ct (Z98.ak ⟨(have:=Z87.len a0;have:=(H0).1;om),fun _ _=>trivial⟩) ?_
  try simp only [SS]
  all_goals exact fz
def af:cq 232 aV:=W2 19 F mix aD bp (.cons Z97.af (.cons Z87.af (.cons Z98.af .nil))) Tryz.func232
def gk {a0:List ah}{a1:aA}(hg:gd a0 a1):aB.Sm (2^21) ((md a0 a1).1):=by
 unfold gd at hg;unfold md
 cases decide (Z97.md a0 a1<0)
 ·refine ⟨?_,fun _ _=>trivial⟩
  have h:=Z98.len (Z87.md a0) (Z97.md a0 a1)
  rw [Z87.len] at h
  exact le_trans h hg.1
 ·exact bI.nil
end Z99
namespace Z100
inductive Pt where
 | p0 (a:aF) (b:aA) (c d:Int)
def pid:Pt->Nat
 | .p0 ..=>3
def cQ:Pt->List V
 | .p0 a b c d=>[.sl none 38 a,.str b,.int .i64 c,.int .i64 d]
def cR:Pt->List aS
 | .p0 a b c d=>[]
def step (J:Pt->aH):Pt->aH
 | .p0 a b c d=>(cond (decide (d<(a.length:Int))) (m2 d (a.length:Int) (call (Z81.R ((aW.at a (toNat d)).aQ,b)) fun v1=>(cond (decide (v1<0)) (J (.p0 a b (i64.wrap (c+1)) (i64.wrap (d+1)))) (J (.p0 a b c (i64.wrap (d+1))))))) (ret (c:Int)))
def start (J:Pt->aH)(x0:aF)(x1:aA):aH:=J (.p0 x0 x1 0 0)
def live:Nat->Live:=fun i=>match i with | 3=>[(0,none),(1,none),(5,none),(6,none)] | _=>[]
def md (a0:List ah)(a1:aA):Int:=(dV (S:=Int) (β:=Int) (fun (y1:ah) (s3:Int)=>(cond (decide ((Z81.md (y1.aQ) a1)<0)) (.inl (i64.wrap (s3+1))) (.inl s3))) (fun (s3:Int)=>(s3:Int)) a0 0)
def gd (a0:List ah)(a1:aA):Prop:=(bI (2^21) (fun y:ah=>ah.Sm (2^21) y) a0)
def R:=RR (p2 gd) (u2 md)
def ak {a0 a1}(h:gd a0 a1):R ((a0.map ah.row),a1)=some (md a0 a1):=aM (a:=(a0,a1)) h
def aV:=CN [pL 38,pS] oI RT.dec R
def bp (a0)(a1)(hg:gd a0 a1):∃n,start (iter step n) (a0.map ah.row) a1=ret (md a0 a1):=by
 unfold gd at hg
 have H0:=hg
 unfold start md
 try simp only [SS]
 have Bh2:a0.length<=maxLen:=(by
   have:=(H0).1
   try simp only [maxLen] at *
   omega)
 refine ex_eq (out:=ret) (eJ (z:=ah.zero)) ?_
 refine dG (p:=Pt.p0 (a0.map ah.row) a1 0 0) fz ?_
 refine bU (pt:=fun (i1:Nat) (s3:Int)=>Pt.p0 (a0.map ah.row) a1 s3 (i1:Int)) (s:=(0:Int)) (out:=ret) (fun _ _=>True) (fun J i1 s3 h2 hih2=>?_) (fun s3 hih2=>?_) trivial
 ·simp only [step,SS]
  have bb_:=Bh2
  simp only [maxLen] at bb_
  have:=(H0).1
  refine bk.yes (by apply decide_eq_true;omega) ?_
  refine bk.yes bE ?_
  refine bk.yes (bM h2) ?_
  refine cr (Z81.ak trivial) ?_
  refine bk.bif (fun c4=>?_) (fun c4=>?_)
  ·refine bk.inl trivial ?_
   rw [aJ h2 Bh2]
   all_goals exact fz
  ·refine bk.inl trivial ?_
   rw [aJ h2 Bh2]
   all_goals exact fz
 ·simp only [step,SS]
  have:=(H0).1
  refine cY (by apply decide_eq_false;omega) ?_
  refine ⟨0,?_⟩
  all_goals exact fz
def af:cq 288 aV:=L2 24 pid cQ cR live step start mix aD bp (.cons Z81.af .nil) Tryz.func288
def fa (a0:List ah)(a1:aA):a0.length<=2^21->0<=md a0 a1/\md a0 a1<=(a0.length:Int):=fun hl=>by
 have key:∀(xs:List ah) (s:Int),0<=s->s+xs.length<=2^22->0<=dV (S:=Int) (β:=Int) (fun (y1:ah) (s3:Int)=>(cond (decide ((Z81.md (y1.aQ) a1)<0)) (.inl (i64.wrap (s3+1))) (.inl s3))) (fun (s3:Int)=>(s3:Int)) xs s/\dV (S:=Int) (β:=Int) (fun (y1:ah) (s3:Int)=>(cond (decide ((Z81.md (y1.aQ) a1)<0)) (.inl (i64.wrap (s3+1))) (.inl s3))) (fun (s3:Int)=>(s3:Int)) xs s<=s+xs.length:=by
  intro xs
  induction xs with
  | nil=>intro s h0 h1;exact ⟨h0,by simp [dV]⟩
  | cons x xs ih=>
   intro s h0 h1
   simp only [List.length_cons] at h1 ⊢
   unfold dV
   cases decide (Z81.md x.aQ a1<0)
   ·have:=ih s h0 (by omega)
    simp only [bh]
    omega
   ·have:=ih (s+1) (by omega) (by omega)
    simp only [aZ]
    rw [wi _ (by omega)]
    omega
 have:=key a0 0 (Int.le_refl _) (by omega)
 unfold md
 omega
end Z100
namespace Z101
def F (x0:aF)(x1:aA):aH:=(call (Z82.R x0) fun v1=>(cond (!v1) (ret (((⟨0,(⟨(⟨#[]⟩:aA),0,0,[]⟩:aW),(⟨(⟨#[]⟩:aA),0,0,[]⟩:aW),(⟨0,[]⟩:bH),(⟨0,[]⟩:bH)⟩:dm),false):dm×Bool)) (call (Z50.R x1) fun v2=>(cond (!v2) (ret (((⟨0,(⟨(⟨#[]⟩:aA),0,0,[]⟩:aW),(⟨(⟨#[]⟩:aA),0,0,[]⟩:aW),(⟨0,[]⟩:bH),(⟨0,[]⟩:bH)⟩:dm),false):dm×Bool)) (call (Z97.R (x0,x1)) fun v3=>(cond (decide (v3>=0)) (ret (((⟨0,(⟨(⟨#[]⟩:aA),0,0,[]⟩:aW),(⟨(⟨#[]⟩:aA),0,0,[]⟩:aW),(⟨0,[]⟩:bH),(⟨0,[]⟩:bH)⟩:dm),false):dm×Bool)) (call (Z100.R (x0,x1)) fun v4=>(cond (decide (v4>0)) (cK (decide ((0:Int)<=(i64.wrap (v4 - 1)))) (cK (decide ((i64.wrap (v4 - 1))<(x0.length:Int))) (call (Z44.R (aW.at x0 (toNat (i64.wrap (v4 - 1))))) fun v5=>(cK (decide ((0:Int)<=(i64.wrap (v4 - 1)))) (cK (decide ((i64.wrap (v4 - 1))<(x0.length:Int))) (call (Z99.R (x0,(aW.at x0 (toNat (i64.wrap (v4 - 1)))).aQ)) fun v6=>(cond (decide (v4<(x0.length:Int))) (m2 v4 (x0.length:Int) (call (Z44.R (aW.at x0 (toNat v4))) fun v7=>(m2 v4 (x0.length:Int) (call (Z99.R (x0,(aW.at x0 (toNat v4)).aQ)) fun v8=>ret (((⟨v4,v5,v7,v6.1,v8.1⟩:dm),true):dm×Bool))))) (ret (((⟨v4,v5,(⟨(⟨#[]⟩:aA),0,0,[]⟩:aW),v6.1,(⟨0,[]⟩:bH)⟩:dm),true):dm×Bool))))))))) (cond (decide (v4<(x0.length:Int))) (m2 v4 (x0.length:Int) (call (Z44.R (aW.at x0 (toNat v4))) fun v9=>(m2 v4 (x0.length:Int) (call (Z99.R (x0,(aW.at x0 (toNat v4)).aQ)) fun v10=>ret (((⟨v4,(⟨(⟨#[]⟩:aA),0,0,[]⟩:aW),v9,(⟨0,[]⟩:bH),v10.1⟩:dm),true):dm×Bool))))) (ret (((⟨v4,(⟨(⟨#[]⟩:aA),0,0,[]⟩:aW),(⟨(⟨#[]⟩:aA),0,0,[]⟩:aW),(⟨0,[]⟩:bH),(⟨0,[]⟩:bH)⟩:dm),true):dm×Bool)))))))))))
def md (a0:List ah)(a1:aA):bG×Bool:=(cond (!(Z82.md a0)) ((⟨0,(⟨((⟨#[]⟩:aA):aA),0,0,[]⟩:ah),(⟨((⟨#[]⟩:aA):aA),0,0,[]⟩:ah),(⟨0,[]⟩:aB),(⟨0,[]⟩:aB)⟩:bG),false) (cond (!(Z50.md a1)) ((⟨0,(⟨((⟨#[]⟩:aA):aA),0,0,[]⟩:ah),(⟨((⟨#[]⟩:aA):aA),0,0,[]⟩:ah),(⟨0,[]⟩:aB),(⟨0,[]⟩:aB)⟩:bG),false) (cond (decide ((Z97.md a0 a1)>=0)) ((⟨0,(⟨((⟨#[]⟩:aA):aA),0,0,[]⟩:ah),(⟨((⟨#[]⟩:aA):aA),0,0,[]⟩:ah),(⟨0,[]⟩:aB),(⟨0,[]⟩:aB)⟩:bG),false) (cond (decide ((Z100.md a0 a1)>0)) (cond (decide ((Z100.md a0 a1)<(a0.length:Int))) ((⟨(Z100.md a0 a1),(a0.getD (toNat (i64.wrap ((Z100.md a0 a1) - 1))) ah.zero),(a0.getD (toNat (Z100.md a0 a1)) ah.zero),(Z99.md a0 ((a0.getD (toNat (i64.wrap ((Z100.md a0 a1) - 1))) ah.zero).aQ)).1,(Z99.md a0 ((a0.getD (toNat (Z100.md a0 a1)) ah.zero).aQ)).1⟩:bG),true) ((⟨(Z100.md a0 a1),(a0.getD (toNat (i64.wrap ((Z100.md a0 a1) - 1))) ah.zero),(⟨((⟨#[]⟩:aA):aA),0,0,[]⟩:ah),(Z99.md a0 ((a0.getD (toNat (i64.wrap ((Z100.md a0 a1) - 1))) ah.zero).aQ)).1,(⟨0,[]⟩:aB)⟩:bG),true)) (cond (decide ((Z100.md a0 a1)<(a0.length:Int))) ((⟨(Z100.md a0 a1),(⟨((⟨#[]⟩:aA):aA),0,0,[]⟩:ah),(a0.getD (toNat (Z100.md a0 a1)) ah.zero),(⟨0,[]⟩:aB),(Z99.md a0 ((a0.getD (toNat (Z100.md a0 a1)) ah.zero).aQ)).1⟩:bG),true) ((⟨(Z100.md a0 a1),(⟨((⟨#[]⟩:aA):aA),0,0,[]⟩:ah),(⟨((⟨#[]⟩:aA):aA),0,0,[]⟩:ah),(⟨0,[]⟩:aB),(⟨0,[]⟩:aB)⟩:bG),true))))))
def gd (a0:List ah)(a1:aA):Prop:=(bI (2^21) (fun y:ah=>ah.Sm (2^21) y) a0)/\(a1.size<=(2^21))
def R:=RR (p2 gd) (u2 md)
def ak {a0 a1}(h:gd a0 a1):R ((a0.map ah.row),a1)=some ((bG.r (md a0 a1).1),(md a0 a1).2):=aM (a:=(a0,a1)) h
def aV:=CN [pL 38,pS] (.hU [(true,f124),(false,[fB])]) RT.dec R
def bp (a0)(a1)(hg:gd a0 a1):F (a0.map ah.row) a1=ret ((bG.r (md a0 a1).1),(md a0 a1).2):=by
 obtain ⟨H0,H1⟩:=hg
 unfold F md
 try simp only [SS]
 refine ct (Z82.ak H0) ?_
 refine aq (fun b:bG×Bool=>ret (((bG.r b.1),b.2):dm×Bool)) (fun c1=>?_) (fun c1=>?_)
 ·all_goals exact fz
 ·have dc1:=c1
  try simp only [DC] at dc1
  refine ct (Z50.ak (le_trans H1 (by decide))) ?_
  refine aq (fun b:bG×Bool=>ret (((bG.r b.1),b.2):dm×Bool)) (fun c2=>?_) (fun c2=>?_)
  ·all_goals exact fz
  ·have dc2:=c2
   try simp only [DC] at dc2
   try have tc2:=Z50.tr (by simpa using c2)
   refine ct (Z97.ak H0) ?_
   have fv3_:=Z97.fa a0 a1
   refine aq (fun b:bG×Bool=>ret (((bG.r b.1),b.2):dm×Bool)) (fun c3=>?_) (fun c3=>?_)
   ·all_goals exact fz
   ·have dc3:=c3
    try simp only [DC] at dc3
    refine ct (Z100.ak H0) ?_
    have fv4_:=Z100.fa a0 a1
    refine aq (fun b:bG×Bool=>ret (((bG.r b.1),b.2):dm×Bool)) (fun c4=>?_) (fun c4=>?_)
    ·have dc4:=c4
     try simp only [DC] at dc4
     refine aN (have:=(H0).1;dt) ?_
     refine aN (have:=(H0).1;have:=(H0).1;dt) ?_
     refine ct (Z44.ak (bI.getD (z:=ah.zero) H0 (by have:=(H0).1;first | assumption | omega | (simp (disch:=omega) only [wi];omega) | (simp;omega)))) ?_
     try simp only [SS]
     refine aN (have:=(H0).1;dt) ?_
     refine aN (have:=(H0).1;have:=(H0).1;dt) ?_
     refine ct (Z99.ak H0) ?_
     try simp only [SS]
     refine aq (fun b:bG×Bool=>ret (((bG.r b.1),b.2):dm×Bool)) (fun c5=>?_) (fun c5=>?_)
     ·have dc5:=c5
      try simp only [DC] at dc5
      refine aN (have:=(H0).1;dt) ?_
      refine aN (have:=(H0).1;have:=(H0).1;dt) ?_
      refine ct (Z44.ak (bI.getD (z:=ah.zero) H0 (by have:=(H0).1;first | assumption | omega | (simp (disch:=omega) only [wi];omega) | (simp;omega)))) ?_
      try simp only [SS]
      refine aN (have:=(H0).1;dt) ?_
      refine aN (have:=(H0).1;have:=(H0).1;dt) ?_
      refine ct (Z99.ak H0) ?_
      try simp only [SS]
      all_goals exact fz
     ·all_goals exact fz
    ·have dc4:=c4
     try simp only [DC] at dc4
     refine aq (fun b:bG×Bool=>ret (((bG.r b.1),b.2):dm×Bool)) (fun c6=>?_) (fun c6=>?_)
     ·have dc6:=c6
      try simp only [DC] at dc6
      refine aN (have:=(H0).1;dt) ?_
      refine aN (have:=(H0).1;have:=(H0).1;dt) ?_
      refine ct (Z44.ak (bI.getD (z:=ah.zero) H0 (by have:=(H0).1;first | assumption | omega | (simp (disch:=omega) only [wi];omega) | (simp;omega)))) ?_
      try simp only [SS]
      refine aN (have:=(H0).1;dt) ?_
      refine aN (have:=(H0).1;have:=(H0).1;dt) ?_
      refine ct (Z99.ak H0) ?_
      try simp only [SS]
      all_goals exact fz
     ·all_goals exact fz
def af:cq 233 aV:=W2 71 F mix aD bp (.cons Z82.af (.cons Z50.af (.cons Z97.af (.cons Z100.af (.cons Z44.af (.cons Z99.af .nil)))))) Tryz.func233
def gk {a0:List ah}{a1:aA}(hg:gd a0 a1):bG.Sm (2^21) ((md a0 a1).1):=by
 unfold gd at hg;unfold md
 have ez:ah.Sm (2^21) ⟨⟨#[]⟩,0,0,[]⟩:=⟨zero_le _,bI.nil⟩
 have pz:aB.Sm (2^21) ⟨0,[]⟩:=bI.nil
 have he:∀i,ah.Sm (2^21) (a0.getD i ah.zero):=fun i=>bI.rP hg.1 ez
 have hp:∀x,aB.Sm (2^21) (Z99.md a0 x).1:=fun x=>Z99.gk hg.1
 simp only [Bool.cond_eq_ite]
 repeat' split
 all_goals (refine ⟨?_,?_,?_,?_⟩<;>first | exact he _ | exact hp _ | exact ez | exact pz)
end Z101
namespace Z102
def F (x0:eV)(x1:aA):aH:=(call (Z94.R x0) fun v1=>(cond (!v1) (ret ((⟨[],false,(⟨(⟨#[]⟩:aA),0,0,[]⟩:aW),(⟨0,[]⟩:bH),(⟨0,(⟨(⟨#[]⟩:aA),0,0,[]⟩:aW),(⟨(⟨#[]⟩:aA),0,0,[]⟩:aW),(⟨0,[]⟩:bH),(⟨0,[]⟩:bH)⟩:dm)⟩:aO):aO)) (call (Z50.R x1) fun v2=>(cond (!v2) (ret ((⟨[],false,(⟨(⟨#[]⟩:aA),0,0,[]⟩:aW),(⟨0,[]⟩:bH),(⟨0,(⟨(⟨#[]⟩:aA),0,0,[]⟩:aW),(⟨(⟨#[]⟩:aA),0,0,[]⟩:aW),(⟨0,[]⟩:bH),(⟨0,[]⟩:bH)⟩:dm)⟩:aO):aO)) (call (Z40.R x0.aP) fun v3=>(call (Z97.R (x0.cz,x1)) fun v4=>(cond (decide (v4>=0)) (m2 v4 (x0.cz.length:Int) (call (Z44.R (aW.at x0.cz (toNat v4))) fun v5=>(call (Z99.R (x0.cz,x1)) fun v6=>ret ((⟨v3,true,v5,v6.1,(⟨0,(⟨(⟨#[]⟩:aA),0,0,[]⟩:aW),(⟨(⟨#[]⟩:aA),0,0,[]⟩:aW),(⟨0,[]⟩:bH),(⟨0,[]⟩:bH)⟩:dm)⟩:aO):aO)))) (call (Z101.R (x0.cz,x1)) fun v7=>ret ((⟨v3,false,(⟨(⟨#[]⟩:aA),0,0,[]⟩:aW),(⟨0,[]⟩:bH),v7.1⟩:aO):aO)))))))))
def md (a0:bA)(a1:aA):aj:=(cond (!(Z94.md a0)) (⟨[],false,(⟨((⟨#[]⟩:aA):aA),0,0,[]⟩:ah),(⟨0,[]⟩:aB),(⟨0,(⟨((⟨#[]⟩:aA):aA),0,0,[]⟩:ah),(⟨((⟨#[]⟩:aA):aA),0,0,[]⟩:ah),(⟨0,[]⟩:aB),(⟨0,[]⟩:aB)⟩:bG)⟩:aj) (cond (!(Z50.md a1)) (⟨[],false,(⟨((⟨#[]⟩:aA):aA),0,0,[]⟩:ah),(⟨0,[]⟩:aB),(⟨0,(⟨((⟨#[]⟩:aA):aA),0,0,[]⟩:ah),(⟨((⟨#[]⟩:aA):aA),0,0,[]⟩:ah),(⟨0,[]⟩:aB),(⟨0,[]⟩:aB)⟩:bG)⟩:aj) (cond (decide ((Z97.md a0.cz a1)>=0)) (⟨a0.aP,true,(a0.cz.getD (toNat (Z97.md a0.cz a1)) ah.zero),(Z99.md a0.cz a1).1,(⟨0,(⟨((⟨#[]⟩:aA):aA),0,0,[]⟩:ah),(⟨((⟨#[]⟩:aA):aA),0,0,[]⟩:ah),(⟨0,[]⟩:aB),(⟨0,[]⟩:aB)⟩:bG)⟩:aj) (⟨a0.aP,false,(⟨((⟨#[]⟩:aA):aA),0,0,[]⟩:ah),(⟨0,[]⟩:aB),(Z101.md a0.cz a1).1⟩:aj))))
def gd (a0:bA)(a1:aA):Prop:=(bA.Sm (2^21) a0)/\(a1.size<=(2^21))
def R:=RR (p2 gd) (u2 md)
def ak {a0 a1}(h:gd a0 a1):R ((bA.r a0),a1)=some (aj.r (md a0 a1)):=aM (a:=(a0,a1)) h
def aV:=CN [.agg vI,pS] (.agg f126) RT.dec R
def bp (a0)(a1)(hg:gd a0 a1):F (bA.r a0) a1=ret (aj.r (md a0 a1)):=by
 obtain ⟨H0,H1⟩:=hg
 unfold F md
 try simp only [SS]
 refine ct (Z94.ak H0) ?_
 refine aq (fun b:aj=>ret ((aj.r b):aO)) (fun c1=>?_) (fun c1=>?_)
 ·all_goals exact fz
 ·have dc1:=c1
  try simp only [DC] at dc1
  refine ct (Z50.ak (le_trans H1 (by decide))) ?_
  refine aq (fun b:aj=>ret ((aj.r b):aO)) (fun c2=>?_) (fun c2=>?_)
  ·all_goals exact fz
  ·have dc2:=c2
   try simp only [DC] at dc2
   try have tc2:=Z50.tr (by simpa using c2)
   refine ct (Z40.ak H0.1) ?_
   try simp only [SS]
   refine ct (Z97.ak H0.2) ?_
   have fv4_:=Z97.fa a0.cz a1
   refine aq (fun b:aj=>ret ((aj.r b):aO)) (fun c3=>?_) (fun c3=>?_)
   ·have dc3:=c3
    try simp only [DC] at dc3
    refine aN dt ?_
    refine aN (have:=(H0.2).1;dt) ?_
    refine ct (Z44.ak (bI.getD (z:=ah.zero) H0.2 (by first | assumption | omega | (simp (disch:=omega) only [wi];omega) | (simp;omega)))) ?_
    try simp only [SS]
    refine ct (Z99.ak H0.2) ?_
    try simp only [SS]
    all_goals exact fz
   ·refine ct (Z101.ak ⟨H0.2,H1⟩) ?_
    try simp only [SS]
    all_goals exact fz
def af:cq 177 aV:=W2 52 F mix aD bp (.cons Z94.af (.cons Z50.af (.cons Z40.af (.cons Z97.af (.cons Z44.af (.cons Z99.af (.cons Z101.af .nil))))))) Tryz.func177
def gk {a0:bA}{a1:aA}(hg:gd a0 a1):aj.Sm (2^21) (md a0 a1):=by
 unfold gd at hg;unfold md
 obtain ⟨⟨hc,hl⟩,_⟩:=hg
 have ez:ah.Sm (2^21) ⟨⟨#[]⟩,0,0,[]⟩:=⟨zero_le _,bI.nil⟩
 have pz:aB.Sm (2^21) ⟨0,[]⟩:=bI.nil
 have gz:bG.Sm (2^21) ⟨0,⟨⟨#[]⟩,0,0,[]⟩,⟨⟨#[]⟩,0,0,[]⟩,⟨0,[]⟩,⟨0,[]⟩⟩:=⟨ez,ez,pz,pz⟩
 have he:∀i,ah.Sm (2^21) (a0.cz.getD i ah.zero):=fun i=>bI.rP hl ez
 have hp:∀x,aB.Sm (2^21) (Z99.md a0.cz x).1:=fun x=>Z99.gk hl
 have hga:bG.Sm (2^21) (Z101.md a0.cz a1).1:=Z101.gk ⟨hl,by assumption⟩
 simp only [Bool.cond_eq_ite]
 repeat' split
 all_goals (refine ⟨?_,?_,?_,?_⟩<;>first | exact hc | exact bI.nil | exact he _ | exact hp _ | exact hga | exact ez | exact pz | exact gz)
end Z102
namespace Z103
def F (x0:dR)(x1:Int)(x2:aA):aH:=(call (Z96.R (x0,x1)) fun v1=>(cond (decide (v1<0)) (ret ((⟨[],false,(⟨(⟨#[]⟩:aA),0,0,[]⟩:aW),(⟨0,[]⟩:bH),(⟨0,(⟨(⟨#[]⟩:aA),0,0,[]⟩:aW),(⟨(⟨#[]⟩:aA),0,0,[]⟩:aW),(⟨0,[]⟩:bH),(⟨0,[]⟩:bH)⟩:dm)⟩:aO):aO)) (cond (x0.iQ==4) (ret ((⟨[],false,(⟨(⟨#[]⟩:aA),0,0,[]⟩:aW),(⟨0,[]⟩:bH),(⟨0,(⟨(⟨#[]⟩:aA),0,0,[]⟩:aW),(⟨(⟨#[]⟩:aA),0,0,[]⟩:aW),(⟨0,[]⟩:bH),(⟨0,[]⟩:bH)⟩:dm)⟩:aO):aO)) (m2 v1 (x0.bY.length:Int) (call (Z102.R ((eV.at x0.bY (toNat v1)),x2)) fun v2=>(cond (x0.iQ==1) (ret ((⟨v2.aP,v2.bS,(⟨v2.bg.aQ,v2.bg.bL,(i64.wrap (v2.bg.bX+1)),v2.bg.bB⟩:aW),v2.cX,v2.eo⟩:aO):aO)) (cond (x0.iQ==2) (cond (decide ((v2.aP.length:Int)>0)) (cK (decide ((0:Int)<=(i64.wrap ((v2.aP.length:Int) - 1)))) (cK (decide ((i64.wrap ((v2.aP.length:Int) - 1))<=(v2.aP.length:Int))) (ret ((⟨(List.take (toNat (i64.wrap ((v2.aP.length:Int) - 1))) v2.aP),v2.bS,v2.bg,v2.cX,v2.eo⟩:aO):aO)))) (ret (v2:aO))) (cond (x0.iQ==3) (ret ((⟨v2.aP,false,(⟨(⟨#[]⟩:aA),0,0,[]⟩:aW),(⟨0,[]⟩:bH),(⟨0,(⟨(⟨#[]⟩:aA),0,0,[]⟩:aW),(⟨(⟨#[]⟩:aA),0,0,[]⟩:aW),(⟨0,[]⟩:bH),(⟨0,[]⟩:bH)⟩:dm)⟩:aO):aO)) (ret (v2:aO))))))))))
def pats:List gF:=[.agg [.sl 215,au],.rd (.int .i64),.rd (.str)]
def res:RP:=.agg [.fr 178,.rd (.bool),.rd (.str),.rd (.int .i64),.rd (.int .i64),.fr 9,.rd (.int .i64),.fr 3,.rd (.int .i64),.rd (.str),.rd (.int .i64),.rd (.int .i64),.fr 9,.rd (.str),.rd (.int .i64),.rd (.int .i64),.fr 9,.rd (.int .i64),.fr 3,.rd (.int .i64),.fr 3]
def md (a0:aR)(a1:Int)(a2:aA):aj:=(cond (decide ((Z96.md a0 a1)<0)) (⟨[],false,(⟨((⟨#[]⟩:aA):aA),0,0,[]⟩:ah),(⟨0,[]⟩:aB),(⟨0,(⟨((⟨#[]⟩:aA):aA),0,0,[]⟩:ah),(⟨((⟨#[]⟩:aA):aA),0,0,[]⟩:ah),(⟨0,[]⟩:aB),(⟨0,[]⟩:aB)⟩:bG)⟩:aj) (cond (a0.iQ==4) (⟨[],false,(⟨((⟨#[]⟩:aA):aA),0,0,[]⟩:ah),(⟨0,[]⟩:aB),(⟨0,(⟨((⟨#[]⟩:aA):aA),0,0,[]⟩:ah),(⟨((⟨#[]⟩:aA):aA),0,0,[]⟩:ah),(⟨0,[]⟩:aB),(⟨0,[]⟩:aB)⟩:bG)⟩:aj) (cond (a0.iQ==1) (⟨(Z102.md (a0.bY.getD (toNat (Z96.md a0 a1)) bA.zero) a2).aP,(Z102.md (a0.bY.getD (toNat (Z96.md a0 a1)) bA.zero) a2).bS,(⟨(Z102.md (a0.bY.getD (toNat (Z96.md a0 a1)) bA.zero) a2).bg.aQ,(Z102.md (a0.bY.getD (toNat (Z96.md a0 a1)) bA.zero) a2).bg.bL,(i64.wrap ((Z102.md (a0.bY.getD (toNat (Z96.md a0 a1)) bA.zero) a2).bg.bX+1)),(Z102.md (a0.bY.getD (toNat (Z96.md a0 a1)) bA.zero) a2).bg.bB⟩:ah),(Z102.md (a0.bY.getD (toNat (Z96.md a0 a1)) bA.zero) a2).cX,(Z102.md (a0.bY.getD (toNat (Z96.md a0 a1)) bA.zero) a2).eo⟩:aj) (cond (a0.iQ==2) (cond (decide (((Z102.md (a0.bY.getD (toNat (Z96.md a0 a1)) bA.zero) a2).aP.length:Int)>0)) (⟨(List.take (toNat (i64.wrap (((Z102.md (a0.bY.getD (toNat (Z96.md a0 a1)) bA.zero) a2).aP.length:Int) - 1))) (Z102.md (a0.bY.getD (toNat (Z96.md a0 a1)) bA.zero) a2).aP),(Z102.md (a0.bY.getD (toNat (Z96.md a0 a1)) bA.zero) a2).bS,(Z102.md (a0.bY.getD (toNat (Z96.md a0 a1)) bA.zero) a2).bg,(Z102.md (a0.bY.getD (toNat (Z96.md a0 a1)) bA.zero) a2).cX,(Z102.md (a0.bY.getD (toNat (Z96.md a0 a1)) bA.zero) a2).eo⟩:aj) (Z102.md (a0.bY.getD (toNat (Z96.md a0 a1)) bA.zero) a2)) (cond (a0.iQ==3) (⟨(Z102.md (a0.bY.getD (toNat (Z96.md a0 a1)) bA.zero) a2).aP,false,(⟨((⟨#[]⟩:aA):aA),0,0,[]⟩:ah),(⟨0,[]⟩:aB),(⟨0,(⟨((⟨#[]⟩:aA):aA),0,0,[]⟩:ah),(⟨((⟨#[]⟩:aA):aA),0,0,[]⟩:ah),(⟨0,[]⟩:aB),(⟨0,[]⟩:aB)⟩:bG)⟩:aj) (Z102.md (a0.bY.getD (toNat (Z96.md a0 a1)) bA.zero) a2))))))
def gd (a0:aR)(a1:Int)(a2:aA):Prop:=(aR.Sm (2^21) a0)/\(a2.size<=(2^21))
def acc (ls:List L):dR×Int×aA:=((dR.dec ls),((av 2 ls).headD .hole).toInt,((av 3 ls).headD .hole).toStr)
def R:(dR×Int×aA)->Option aO:=RR (p3 gd) (u3 md)
def ak {a0 a1 a2}(h:gd a0 a1 a2):R ((aR.r a0),a1,a2)=some (aj.r (md a0 a1 a2)):=aM (a:=(a0,a1,a2)) h
def aV:gy:=CN pats res acc R
def bp (a0:aR)(a1:Int)(a2:aA)(hg:gd a0 a1 a2):F (aR.r a0) a1 a2=ret ((aj.r (md a0 a1 a2)):aO):=by
 obtain ⟨H0,H2⟩:=hg
 unfold F md
 try simp only [SS]
 refine ct (Z96.ak H0) ?_
 have fv1_:=Z96.fa a0 a1
 refine aq (fun b:aj=>ret ((aj.r b):aO)) (fun c1=>?_) (fun c1=>?_)
 ·all_goals exact fz
 ·have dc1:=c1
  try simp only [DC] at dc1
  refine aq (fun b:aj=>ret ((aj.r b):aO)) (fun c2=>?_) (fun c2=>?_)
  ·all_goals exact fz
  ·have dc2:=c2
   try simp only [DC] at dc2
   refine aN (have:=(H0).1;dt) ?_
   refine aN (have:=(H0).1;have:=(H0).1;dt) ?_
   refine ct (Z102.ak ⟨(bI.getD (z:=bA.zero) H0 (by have:=(H0).1;first | assumption | omega | (simp (disch:=omega) only [wi];omega) | (simp;omega))),H2⟩) ?_
   try simp only [SS]
   refine aq (fun b:aj=>ret ((aj.r b):aO)) (fun c3=>?_) (fun c3=>?_)
   ·all_goals exact fz
   ·have dc3:=c3
    try simp only [DC] at dc3
    refine aq (fun b:aj=>ret ((aj.r b):aO)) (fun c4=>?_) (fun c4=>?_)
    ·have dc4:=c4
     try simp only [DC] at dc4
     refine aq (fun b:aj=>ret ((aj.r b):aO)) (fun c5=>?_) (fun c5=>?_)
     ·have dc5:=c5
      try simp only [DC] at dc5
      refine aN (have:=((Z102.gk (a0:=a0.bY.getD (toNat (Z96.md a0 a1)) bA.zero) (a1:=a2) ⟨(bI.getD (z:=bA.zero) H0 (by have:=(H0).1;first | assumption | omega | (simp (disch:=omega) only [wi];omega) | (simp;omega))),H2⟩).1).1;have:=(H0).1;dt) ?_
      refine aN (have:=((Z102.gk (a0:=a0.bY.getD (toNat (Z96.md a0 a1)) bA.zero) (a1:=a2) ⟨(bI.getD (z:=bA.zero) H0 (by have:=(H0).1;first | assumption | omega | (simp (disch:=omega) only [wi];omega) | (simp;omega))),H2⟩).1).1;have:=(H0).1;dt) ?_
      all_goals exact fz
     ·all_goals exact fz
    ·refine aq (fun b:aj=>ret ((aj.r b):aO)) (fun c6=>?_) (fun c6=>?_)
     ·all_goals exact fz
     ·all_goals exact fz
def af:cq 136 aV:=VT (live:=fun _=>[]) (nt:=57) (run:=fun _ x=>F x.1 x.2.1 x.2.2) mix aD (.cons Z96.af (.cons Z102.af .nil)) .nil Tryz.func136 (by kernel_rfl) (fun _ _=>by kernel_rfl) (fun _ a _ _ hg=>⟨0,bp a.1 a.2.1 a.2.2 hg⟩)
def gk {a0:aR}{a1:Int}{a2:aA}(hg:gd a0 a1 a2):aj.Sm (2^21) (md a0 a1 a2):=by
 unfold gd at hg;unfold md
 obtain ⟨hs,hl⟩:=hg
 have ez:ah.Sm (2^21) ⟨⟨#[]⟩,0,0,[]⟩:=⟨zero_le _,bI.nil⟩
 have pz:aB.Sm (2^21) ⟨0,[]⟩:=bI.nil
 have gz:bG.Sm (2^21) ⟨0,⟨⟨#[]⟩,0,0,[]⟩,⟨⟨#[]⟩,0,0,[]⟩,⟨0,[]⟩,⟨0,[]⟩⟩:=⟨ez,ez,pz,pz⟩
 have zz:bA.Sm (2^21) bA.zero:=⟨bI.nil,bI.nil⟩
 have ha:∀i,aj.Sm (2^21) (Z102.md (a0.bY.getD i bA.zero) a2):=fun i=>Z102.gk ⟨bI.rP hs zz,hl⟩
 have ht:∀i n,bI (2^21) (fun y:aa=>aa.Sm (2^21) y) (List.take n (List.drop 0 (Z102.md (a0.bY.getD i bA.zero) a2).aP)):=fun i n=>⟨le_trans (by simp;omega) (ha i).1.1,fun x hx=>(ha i).1.2 x (List.mem_of_mem_take hx)⟩
 have ht2:∀i n,bI (2^21) (fun y:aa=>aa.Sm (2^21) y) (List.take n (Z102.md (a0.bY.getD i bA.zero) a2).aP):=fun i n=>⟨le_trans (by simp;omega) (ha i).1.1,fun x hx=>(ha i).1.2 x (List.mem_of_mem_take hx)⟩
 simp only [Bool.cond_eq_ite]
 repeat' split
 all_goals first | exact ha _ | (refine ⟨?_,?_,?_,?_⟩<;>first | exact ht _ _ | exact ht2 _ _ | exact bI.nil | exact (ha _).1 | exact (ha _).2.1 | exact (ha _).2.2.1 | exact (ha _).2.2.2 | exact ez | exact pz | exact gz)
end Z103
namespace Z104
inductive Pt where
 | p0 (a:aF) (b:Int) (c:aA) (d:Int) (e:aF)
def pid:Pt->Nat
 | .p0 ..=>3
def cQ:Pt->List V
 | .p0 a b c d e=>[.sl none 138 a,.int .i64 b,.str c,.own 0,.int .i64 d]
def cR:Pt->List aS
 | .p0 a b c d e=>[.row 126 e]
def step (J:Pt->aH):Pt->aH
 | .p0 a b c d e=>(cond (decide (d<(a.length:Int))) (cond (decide (d<4)) (m2 d (a.length:Int) (call (Z103.R ((dR.at a (toNat d)),b,c)) fun v1=>(cK (eO (((e.length:Int)+1)*304)) (J (.p0 a b c (i64.wrap (d+1)) (e++[(aO.enc v1)])))))) (ret (e:aF))) (ret (e:aF)))
def start (J:Pt->aH)(x0:aF)(x1:Int)(x2:aA):aH:=J (.p0 x0 x1 x2 0 [])
def live:Nat->Live:=fun i=>match i with | 3=>[(0,none),(1,none),(2,none),(7,some 126),(8,none)] | _=>[]
def md (a0:List aR)(a1:Int)(a2:aA):List aj:=(dF (S:=List aj) (β:=List aj) (fun (i1:Nat) (y1:aR) (s3:List aj)=>(cond (decide ((i1:Int)<4)) (.inl (s3++[(Z103.md y1 a1 a2)])) (.inr s3))) (fun (s3:List aj)=>s3) 0 a0 [])
def gd (a0:List aR)(a1:Int)(a2:aA):Prop:=(bI (2^21) (fun y:aR=>aR.Sm (2^21) y) a0)/\(a2.size<=(2^21))
def R:=RR (p3 gd) (u3 md)
def ak {a0 a1 a2}(h:gd a0 a1 a2):R ((a0.map aR.row),a1,a2)=some ((md a0 a1 a2).map aj.row):=aM (a:=(a0,a1,a2)) h
def aV:=CN [pL 138,pI,pS] (oL 126) RT.dec R
def bp (a0)(a1)(a2)(hg:gd a0 a1 a2):∃n,start (iter step n) (a0.map aR.row) a1 a2=ret ((md a0 a1 a2).map aj.row):=by
 obtain ⟨H0,H2⟩:=hg
 unfold start md
 try simp only [SS]
 have Bh2:a0.length<=maxLen:=(by
   have:=(H0).1
   try simp only [maxLen] at *
   omega)
 refine ex_eq (out:=(fun b:List aj=>ret ((b.map aj.row):aF))) (cH (z:=aR.zero)) ?_
 refine dG (p:=Pt.p0 (a0.map aR.row) a1 a2 0 ([].map aj.row)) fz ?_
 refine bU (pt:=fun (i1:Nat) (s3:List aj)=>Pt.p0 (a0.map aR.row) a1 a2 (i1:Int) (s3.map aj.row)) (s:=([]:List aj)) (out:=(fun b:List aj=>ret ((b.map aj.row):aF))) (fun (i1:Nat) (s3:List aj)=>s3.length<=([]:List Int).length+1*i1) (fun J i1 s3 h2 hih2=>?_) (fun s3 hih2=>?_) (by simp)
 ·simp only [step,SS]
  have gr_:=hih2
  try simp only [LN] at gr_
  have bb_:=Bh2
  simp only [maxLen] at bb_
  have:=(H0).1
  refine bk.yes (by apply decide_eq_true;omega) ?_
  refine bk.bif (fun c4=>?_) (fun c4=>?_)
  ·have dc4:=c4
   try simp only [DC] at dc4
   refine bk.yes bE ?_
   refine bk.yes (bM h2) ?_
   refine cr (Z103.ak ⟨(bI.getD (z:=aR.zero) H0 h2),H2⟩) ?_
   try simp only [SS]
   refine bk.yes lm ?_
   refine bk.inl (by
     have g_:=hih2
     try simp only [LN] at g_ ⊢
     first | omega | (simp;done) | (simp;omega)) ?_
   rw [aJ h2 Bh2]
   all_goals exact fz
  ·refine bk.inr ?_
   all_goals exact fz
 ·simp only [step,SS]
  have gr_:=hih2
  try simp only [LN] at gr_
  have:=(H0).1
  refine cY (by apply decide_eq_false;omega) ?_
  refine ⟨0,?_⟩
  all_goals exact fz
def af:cq 88 aV:=L3 31 pid cQ cR live step start mix aD bp (.cons Z103.af .nil) Tryz.func88
def tc (a0:List aR)(a1:Int)(a2:aA):md a0 a1 a2=(a0.take 4).map (fun y=>Z103.md y a1 a2):=by
 have key:∀(xs:List aR) (i:Nat) (s:List aj),i<=4->dF (S:=List aj) (β:=List aj) (fun (i1:Nat) (y1:aR) (s3:List aj)=>(cond (decide ((i1:Int)<4)) (.inl (s3++[(Z103.md y1 a1 a2)])) (.inr s3))) (fun (s3:List aj)=>s3) i xs s=s++(xs.take (4 - i)).map (fun y=>Z103.md y a1 a2):=by
  intro xs
  induction xs with
  | nil=>intro i s _;simp [dF]
  | cons x xs ih=>
   intro i s hi
   unfold dF
   by_cases h:i<4
   ·rw [decide_eq_true (by omega)]
    simp only [aZ]
    rw [ih (i+1) _ (by omega),show 4 - i=(4 - (i+1))+1 by omega]
    simp
   ·rw [decide_eq_false (by omega),show 4 - i=0 by omega]
    simp
 exact (key a0 0 [] (by omega)).trans (by simp)
def gk {a0:List aR}{a1:Int}{a2:aA}(hg:gd a0 a1 a2):bI (2^21) (fun y:aj=>aj.Sm (2^21) y) (md a0 a1 a2):=by
 unfold gd at hg
 rw [tc]
 exact (bI.take hg.1).map fun x hx=>Z103.gk ⟨hx,hg.2⟩
def Ay (a0:List aR)(a1:Int)(a2:aA):(md a0 a1 a2).length<=4:=by
 rw [tc,List.length_map]
 exact le_trans (List.length_take_le _ _) (Nat.le_refl _)
end Z104
namespace Z105
inductive Pt where
 | p0 (a b:Int) (c:bt)
def pid:Pt->Nat
 | .p0 ..=>2
def cQ:Pt->List V
 | .p0 a b c=>[.int .i64 a,.cj 0 0,.int .i64 b]
def cR:Pt->List aS
 | .p0 a b c=>[.box [.sl none 120 c.aK,.sl none 180 c.bq]]
def step (J:Pt->aH):Pt->aH
 | .p0 a b c=>(cond (decide (b<(c.aK.length:Int))) (m2 b (c.aK.length:Int) (cond (decide (((pX c.aK (toNat b)).length:Int)>0)) (m2 b (c.aK.length:Int) (cK (decide ((0:Int)<((pX c.aK (toNat b)).length:Int))) (cond ((aT.at (pX c.aK (toNat b)) 0).ay.bw==a) (ret (b:Int)) (J (.p0 a (i64.wrap (b+1)) c))))) (J (.p0 a (i64.wrap (b+1)) c)))) (ret ((-1):Int)))
def start (J:Pt->aH)(x0:bt)(x1:Int):aH:=J (.p0 x1 0 x0)
def live:Nat->Live:=fun i=>match i with | 2=>[(1,none),(2,none),(5,none)] | _=>[]
def md (a0:an)(a1:Int):Int:=(dF (S:=Unit) (β:=Int) (fun (i1:Nat) (y1:List aa) (s3:Unit)=>(cond (decide ((y1.length:Int)>0)) (cond (((y1.getD 0 aa.zero).ay).bw==a1) (.inr ((i1:Int):Int)) (.inl ())) (.inl ()))) (fun (s3:Unit)=>((-1):Int)) 0 a0.aK ())
def gd (a0:an)(a1:Int):Prop:=(an.Sm (2^21) a0)
def R:=RR (p2 gd) (u2 md)
def ak {a0 a1}(h:gd a0 a1):R ((an.r a0),a1)=some (md a0 a1):=aM (a:=(a0,a1)) h
def aV:=CN [.agg tO,pI] oI RT.dec R
def bp (a0)(a1)(hg:gd a0 a1):∃n,start (iter step n) (an.r a0) a1=ret (md a0 a1):=by
 unfold gd at hg
 have H0:=hg
 unfold start md
 try simp only [SS]
 have Bh2:a0.aK.length<=maxLen:=(by
   have:=(H0.1).1
   try simp only [maxLen] at *
   omega)
 refine ex_eq (out:=ret) (cH (z:=[])) ?_
 refine dG (p:=Pt.p0 a1 0 (an.r a0)) fz ?_
 refine bU (pt:=fun (i1:Nat) (s3:Unit)=>Pt.p0 a1 (i1:Int) (an.r a0)) (s:=(():Unit)) (out:=ret) (fun _ _=>True) (fun J i1 s3 h2 hih2=>?_) (fun s3 hih2=>?_) trivial
 ·simp only [step,SS]
  have bb_:=Bh2
  simp only [maxLen] at bb_
  have:=(H0.1).1
  refine bk.yes (by apply decide_eq_true;omega) ?_
  refine bk.yes bE ?_
  refine bk.yes (bM h2) ?_
  refine bk.bif (fun c4=>?_) (fun c4=>?_)
  ·have dc4:=c4
   try simp only [DC] at dc4
   refine bk.yes bE ?_
   refine bk.yes (bM h2) ?_
   refine bk.yes (have:=((bI.getD (z:=[]) H0.1 h2)).1;dt) ?_
   refine bk.bif (fun c5=>?_) (fun c5=>?_)
   ·refine bk.inr ?_
    all_goals exact fz
   ·refine bk.inl trivial ?_
    rw [aJ h2 Bh2]
    all_goals exact fz
  ·refine bk.inl trivial ?_
   rw [aJ h2 Bh2]
   all_goals exact fz
 ·simp only [step,SS]
  have:=(H0.1).1
  refine cY (by apply decide_eq_false;omega) ?_
  refine ⟨0,?_⟩
  all_goals exact fz
def af:cq 181 aV:=L2 34 pid cQ cR live step start mix aD bp .nil Tryz.func181
def fa (a0:an)(a1:Int):-1<=md a0 a1/\md a0 a1<(a0.aK.length:Int):=by
 unfold md
 refine fF ?_ _ _
 all_goals
  intro i x s b h
  revert h
  simp only [Bool.cond_eq_ite]
  repeat' split
  all_goals (intro h;first | (cases h;rfl) | cases h)
end Z105
namespace Z106
def F (x0 x1:bW):aH:=(call (Z61.R x0) fun v1=>(call (Z61.R x1) fun v2=>(call (Z70.R (v1,v2)) fun v3=>(cond v3 (ret ((x0.bF==x1.bF):Bool)) bf))))
def md (a0 a1:aE):Bool:=(cond (Z70.md (Z61.md a0) (Z61.md a1)) ((a0.bF==a1.bF):Bool) (false:Bool))
def gd (a0 a1:aE):Prop:=(aE.Sm (2^21) a0)/\(aE.Sm (2^21) a1)
def R:=RR (p2 gd) (u2 md)
def ak {a0 a1}(h:gd a0 a1):R ((aE.r a0),(aE.r a1))=some (md a0 a1):=aM (a:=(a0,a1)) h
def aV:=CN [.agg fV,.agg fV] oB RT.dec R
def bp (a0)(a1)(hg:gd a0 a1):F (aE.r a0) (aE.r a1)=ret (md a0 a1):=by
 obtain ⟨H0,H1⟩:=hg
 unfold F md
 try simp only [SS]
 refine ct (Z61.ak H0) ?_
 try simp only [SS]
 refine ct (Z61.ak H1) ?_
 try simp only [SS]
 refine ct (Z70.ak ⟨⟨(have:=Z61.len a0;have:=(H0.1).1;have:=(H0.2.1).1;have:=(H0.2.2).1;om),fun _ _=>trivial⟩,⟨(have:=Z61.len a1;have:=(H1.1).1;have:=(H1.2.1).1;have:=(H1.2.2).1;om),fun _ _=>trivial⟩⟩) ?_
 refine aq ret (fun c1=>?_) (fun _=>rfl)
 all_goals exact fz
def af:cq 237 aV:=W2 17 F mix aD bp (.cons Z61.af (.cons Z70.af .nil)) Tryz.func237
def md_eq (a0 a1:aE):md a0 a1=eu a0 a1:=by
 unfold md
 simp only [Z70.md_eq,bool_beq]
 rw [Bool.eq_iff_iff]
 constructor
 ·intro h
  cases he:eu (Z61.md a0) (Z61.md a1)<;>rw [he] at h
  ·cases h
  ·exact cU.2 (Z61.inj (cU.1 he))
 ·intro h
  rw [cU] at h
  rw [h,iB,iB];rfl
end Z106
namespace Z107
inductive Pt where
 | p0 (a b:aF) (c:Int)
def pid:Pt->Nat
 | .p0 ..=>4
def cQ:Pt->List V
 | .p0 a b c=>[.sl none 178 a,.sl none 178 b,.int .i64 c]
def cR:Pt->List aS
 | .p0 a b c=>[]
def step (J:Pt->aH):Pt->aH
 | .p0 a b c=>(cond (decide (c<(a.length:Int))) (m2 c (a.length:Int) (m2 c (b.length:Int) (call (Z106.R ((aT.at a (toNat c)).ay,(aT.at b (toNat c)).ay)) fun v1=>(cond (!v1) bf (J (.p0 a b (i64.wrap (c+1)))))))) eG)
def start (J:Pt->aH)(x0 x1:aF):aH:=(cond (decide ((x0.length:Int)>(x1.length:Int))) bf (J (.p0 x0 x1 0)))
def live:Nat->Live:=fun i=>match i with | 4=>[(0,none),(1,none),(5,none)] | _=>[]
def md (a0 a1:List aa):Bool:=(bif (decide ((a0.length:Int)>(a1.length:Int))) then (false:Bool) else (eD (S:=Unit) (β:=Bool) (fun (i2:Nat) (s4:Unit)=>(cond (!(Z106.md ((a0.getD i2 aa.zero).ay) ((a1.getD i2 aa.zero).ay))) (.inr (false:Bool)) (.inl ()))) (fun (s4:Unit)=>(true:Bool)) a0.length 0 ()))
def gd (a0 a1:List aa):Prop:=(bI (2^21) (fun y:aa=>aa.Sm (2^21) y) a0)/\(bI (2^21) (fun y:aa=>aa.Sm (2^21) y) a1)
def R:=RR (p2 gd) (u2 md)
def ak {a0 a1}(h:gd a0 a1):R ((a0.map aa.row),(a1.map aa.row))=some (md a0 a1):=aM (a:=(a0,a1)) h
def aV:=CN [pL 178,pL 178] oB RT.dec R
def bp (a0)(a1)(hg:gd a0 a1):∃n,start (iter step n) (a0.map aa.row) (a1.map aa.row)=ret (md a0 a1):=by
 obtain ⟨H0,H1⟩:=hg
 unfold start md
 try simp only [SS]
 refine gP ret (fun _=>⟨0,rfl⟩) (fun c1=>?_)
 have dc1:=c1
 try simp only [DC] at dc1
 have Bh3:a0.length<=maxLen:=(by
   have:=(H0).1
   try simp only [maxLen] at *
   omega)
 refine dG (p:=Pt.p0 (a0.map aa.row) (a1.map aa.row) 0) fz ?_
 refine bU (pt:=fun (i2:Nat) (s4:Unit)=>Pt.p0 (a0.map aa.row) (a1.map aa.row) (i2:Int)) (s:=(():Unit)) (out:=ret) (fun _ _=>True) (fun J i2 s4 h3 hih3=>?_) (fun s4 hih3=>?_) trivial
 ·simp only [step,SS]
  have bb_:=Bh3
  simp only [maxLen] at bb_
  have:=(H0).1
  refine bk.yes (by apply decide_eq_true;omega) ?_
  refine bk.yes bE ?_
  refine bk.yes (bM h3) ?_
  refine bk.yes bE ?_
  refine bk.yes (have:=(H1).1;dt) ?_
  refine cr (Z106.ak ⟨(bI.getD (z:=aa.zero) H0 h3).1,(bI.getD (z:=aa.zero) H1 (by first | assumption | omega | (simp (disch:=omega) only [wi];omega) | (simp;omega))).1⟩) ?_
  refine bk.bif (fun _=>bk.inr rfl) (fun c5=>?_)
  refine bk.inl trivial ?_
  rw [aJ h3 Bh3]
  all_goals exact fz
 ·simp only [step,SS]
  have:=(H0).1
  refine cY (by apply decide_eq_false;omega) ?_
  refine ⟨0,?_⟩
  all_goals exact fz
def af:cq 236 aV:=L2 29 pid cQ cR live step start mix aD bp (.cons Z106.af .nil) Tryz.func236
end Z107
namespace Z108
def F (x0:bt)(x1:aF):aH:=(call (Z78.R x1) fun v1=>(cond (!v1) (ret (6:Int)) (cK (decide ((0:Int)<(x1.length:Int))) (call (Z105.R (x0,(aT.at x1 0).ay.bw)) fun v2=>(cond (decide (v2<0)) (ret (1:Int)) (m2 v2 (x0.aK.length:Int) (call (Z107.R ((pX x0.aK (toNat v2)),x1)) fun v3=>(m2 v2 (x0.aK.length:Int) (call (Z107.R (x1,(pX x0.aK (toNat v2)))) fun v4=>(cond v3 (cond v4 (ret (2:Int)) (cond v3 (ret (3:Int)) (cond v4 (ret (4:Int)) (ret (5:Int))))) (cond v3 (ret (3:Int)) (cond v4 (ret (4:Int)) (ret (5:Int))))))))))))))
def md (a0:an)(a1:List aa):Int:=(cond (!(Z78.md a1)) (6:Int) (cond (decide ((Z105.md a0 (((a1.getD 0 aa.zero).ay).bw))<0)) (1:Int) (cond (Z107.md (a0.aK.getD (toNat (Z105.md a0 (((a1.getD 0 aa.zero).ay).bw))) []) a1) (cond (Z107.md a1 (a0.aK.getD (toNat (Z105.md a0 (((a1.getD 0 aa.zero).ay).bw))) [])) (2:Int) (cond (Z107.md (a0.aK.getD (toNat (Z105.md a0 (((a1.getD 0 aa.zero).ay).bw))) []) a1) (3:Int) (cond (Z107.md a1 (a0.aK.getD (toNat (Z105.md a0 (((a1.getD 0 aa.zero).ay).bw))) [])) (4:Int) (5:Int)))) (cond (Z107.md (a0.aK.getD (toNat (Z105.md a0 (((a1.getD 0 aa.zero).ay).bw))) []) a1) (3:Int) (cond (Z107.md a1 (a0.aK.getD (toNat (Z105.md a0 (((a1.getD 0 aa.zero).ay).bw))) [])) (4:Int) (5:Int))))))
def gd (a0:an)(a1:List aa):Prop:=(an.Sm (2^21) a0)/\(bI (2^21) (fun y:aa=>aa.Sm (2^21) y) a1)
def R:=RR (p2 gd) (u2 md)
def ak {a0 a1}(h:gd a0 a1):R ((an.r a0),(a1.map aa.row))=some (md a0 a1):=aM (a:=(a0,a1)) h
def aV:=CN [.agg tO,pL 178] oI RT.dec R
def bp (a0)(a1)(hg:gd a0 a1):F (an.r a0) (a1.map aa.row)=ret (md a0 a1):=by
 obtain ⟨H0,H1⟩:=hg
 unfold F md
 try simp only [SS]
 refine ct (Z78.ak H1) ?_
 refine aq ret (fun _=>rfl) (fun c1=>?_)
 have dc1:=c1
 try simp only [DC] at dc1
 try have tc1:=Z78.tr (by simpa using c1)
 refine aN (have:=(H1).1;dt) ?_
 refine ct (Z105.ak H0) ?_
 have fv2_:=Z105.fa a0 (((a1.getD 0 aa.zero).ay).bw)
 refine aq ret (fun _=>rfl) (fun c2=>?_)
 have dc2:=c2
 try simp only [DC] at dc2
 refine aN dt ?_
 refine aN (have:=(H0.1).1;dt) ?_
 refine ct (Z107.ak ⟨(bI.getD (z:=[]) H0.1 (by first | assumption | omega | (simp (disch:=omega) only [wi];omega) | (simp;omega))),H1⟩) ?_
 refine aN dt ?_
 refine aN (have:=(H0.1).1;dt) ?_
 refine ct (Z107.ak ⟨H1,(bI.getD (z:=[]) H0.1 (by first | assumption | omega | (simp (disch:=omega) only [wi];omega) | (simp;omega)))⟩) ?_
 refine aq ret (fun c3=>?_) (fun c3=>?_)
 ·refine aq ret (fun _=>rfl) (fun c4=>?_)
  refine aq ret (fun _=>rfl) (fun c5=>?_)
  refine aq ret (fun _=>rfl) (fun _=>rfl)
 ·refine aq ret (fun _=>rfl) (fun c7=>?_)
  refine aq ret (fun _=>rfl) (fun _=>rfl)
def af:cq 180 aV:=W2 43 F mix aD bp (.cons Z78.af (.cons Z105.af (.cons Z107.af .nil))) Tryz.func180
def fa (a0:an)(a1:List aa):(md a0 a1=3->1<=a1.length/\0<=Z105.md a0 (a1.getD 0 aa.zero).ay.bw)/\(md a0 a1=5->1<=a1.length/\0<=Z105.md a0 (a1.getD 0 aa.zero).ay.bw):=by
 unfold md
 cases h:Z78.md a1
 ·exact ⟨fun h=>by simp at h,fun h=>by simp at h⟩
 ·have t:=Z78.tr h
  cases hf:decide (Z105.md a0 ((a1.getD 0 aa.zero).ay.bw)<0)
  ·have:=of_decide_eq_false hf
   exact ⟨fun _=>⟨t.1,by omega⟩,fun _=>⟨t.1,by omega⟩⟩
  ·exact ⟨fun h=>by simp at h,fun h=>by simp at h⟩
end Z108
end Go.DM
end
