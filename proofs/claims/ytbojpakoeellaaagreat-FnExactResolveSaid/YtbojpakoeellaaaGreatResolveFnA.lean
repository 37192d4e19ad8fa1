/- What the functions compute that the law reaches, and that the law returns true. Conditions: none. -/
import Derived.Test.YtbojpakoeellaaaGreatResolveTy
import Derived.Test.YtbojpakoeellaaaGreatProg
import Derived.Lib.AppendZerosOnto
import Derived.Lib.Bytealg
import Derived.Laws.Externs
import Derived.Lib.Walk
import Derived.Lib.Hide
import Derived.Lib.Strings
set_option linter.all false
set_option maxRecDepth 100000
noncomputable section
namespace Go.DM
open Go.Proofs
open Go.IntKind (i64)
open Int (toNat)
open Nat (le_trans zero_le)
abbrev aB:=K.int .i64
abbrev bh:=ret (false:Bool)
abbrev eI:=ret (true:Bool)
abbrev fq (b:Int):Bool:=Nat.beq (toNat b) (toNat b)&&true
abbrev k7:List K:=[aB,aB,.bool,.int .u8]
abbrev f7:List Lf:=[fI,fI,fB,.rd (.int .u8)]
abbrev k8:List K:=[aB,aB,.bool,.int .u8]
abbrev f8:List Lf:=[fI,fI,fB,.rd (.int .u8)]
abbrev ru:List K:=[.str,.int .u64]
abbrev f13:List Lf:=[fS,.rd (.int .u64)]
abbrev ry:List K:=[.str,.int .u64]
abbrev f14:List Lf:=[fS,.rd (.int .u64)]
abbrev BW:List K:=[.sl 122,.sl 132]
abbrev f24:List Lf:=[.fr 122,.fr 132]
abbrev Bs:List K:=[.sl 122,.sl 132]
abbrev f25:List Lf:=[.fr 122,.fr 132]
abbrev B1:List K:=[.sl 134,.sl 143]
abbrev f36:List Lf:=[.fr 134,.fr 143]
abbrev tE:List K:=[.sl 134,.sl 143]
abbrev f37:List Lf:=[.fr 134,.fr 143]
abbrev B2:List K:=[.str,aB,aB,.sl 9]
abbrev f56:List Lf:=[fS,fI,fI,.fr 9]
abbrev qV:List K:=[.str,aB,aB,.sl 9]
abbrev f57:List Lf:=[fS,fI,fI,.fr 9]
abbrev BY:List K:=[.sl 134,.sl 143,aB,.str,aB,aB,.sl 9,.sl 3,aB]
abbrev f59:List Lf:=[.fr 134,.fr 143,fI,fS,fI,fI,.fr 9,.fr 3,fI]
abbrev Bl:List K:=[.sl 134,.sl 143,aB,.str,aB,aB,.sl 9,.sl 3,aB]
abbrev f60:List Lf:=[.fr 134,.fr 143,fI,fS,fI,fI,.fr 9,.fr 3,fI]
abbrev B0:List K:=[.sl 183,aB]
abbrev f77:List Lf:=[.fr 183,fI]
abbrev BC:List K:=[.sl 183,aB]
abbrev f78:List Lf:=[.fr 183,fI]
abbrev BU:List K:=[.str,aB]
abbrev f80:List Lf:=[fS,fI]
abbrev BT:List K:=[.str,aB]
abbrev f81:List Lf:=[fS,fI]
abbrev BS:List K:=[.str,aB]
abbrev f83:List Lf:=[fS,fI]
abbrev BV:List K:=[.sl 155,aB]
abbrev f87:List Lf:=[.fr 155,fI]
abbrev Be:List K:=[.sl 155,aB]
abbrev f88:List Lf:=[.fr 155,fI]
abbrev Bq:List K:=[.sl 134,.sl 143,.bool,.str,aB,aB,.sl 9,.bool,.sl 3]
abbrev f101:List Lf:=[.fr 134,.fr 143,fB,fS,fI,fI,.fr 9,fB,.fr 3]
abbrev Aw:List K:=[.sl 134,.sl 143,.bool,.str,aB,aB,.sl 9,.bool,.sl 3]
abbrev f102:List Lf:=[.fr 134,.fr 143,fB,fS,fI,fI,.fr 9,fB,.fr 3]
abbrev BN:List K:=[.str,aB]
abbrev f115:List Lf:=[fS,fI]
abbrev Bv:List K:=[.str,aB]
abbrev f118:List Lf:=[fS,fI]
abbrev Bx:List K:=[.sl 3,aB]
abbrev f124:List Lf:=[.fr 3,fI]
abbrev Ae:List K:=[.sl 3,aB]
abbrev f125:List Lf:=[.fr 3,fI]
abbrev BH:List K:=[aB,aB,aB,aB,aB,aB,aB,aB,.sl 3,aB,.sl 3,aB,aB,.sl 3,aB,.bool]
abbrev f126:List Lf:=[fI,fI,fI,fI,fI,fI,fI,fI,.fr 3,fI,.fr 3,fI,fI,.fr 3,fI,fB]
abbrev An:List K:=[aB,aB,aB,aB,aB,aB,aB,aB,.sl 3,aB,.sl 3,aB,aB,.sl 3,aB,.bool]
abbrev f127:List Lf:=[fI,fI,fI,fI,fI,fI,fI,fI,.fr 3,fI,.fr 3,fI,fI,.fr 3,fI,fB]
abbrev By:List K:=[aB,aB,aB,aB,aB,aB,aB,aB,.sl 3,aB,.sl 3,aB,aB,.sl 3,aB,.bool,.sl 238]
abbrev f129:List Lf:=[fI,fI,fI,fI,fI,fI,fI,fI,.fr 3,fI,.fr 3,fI,fI,.fr 3,fI,fB,.fr 238]
abbrev Ai:List K:=[aB,aB,aB,aB,aB,aB,aB,aB,.sl 3,aB,.sl 3,aB,aB,.sl 3,aB,.bool,.sl 238]
abbrev f130:List Lf:=[fI,fI,fI,fI,fI,fI,fI,fI,.fr 3,fI,.fr 3,fI,fI,.fr 3,fI,fB,.fr 238]
abbrev Bz:List K:=[aB,aB,aB,aB,aB,aB,aB,aB,.sl 3,aB,.sl 3,aB,aB,.sl 3,aB,.bool,.sl 238,aB,aB,aB,aB,aB,aB,aB,aB,.sl 3,aB,.sl 3,aB,aB,.sl 3,aB,.bool,.sl 238,aB,aB,aB,aB,aB,aB,aB,aB,.sl 3,aB,.sl 3,aB,aB,.sl 3,aB,.bool,.sl 238]
abbrev f131:List Lf:=[fI,fI,fI,fI,fI,fI,fI,fI,.fr 3,fI,.fr 3,fI,fI,.fr 3,fI,fB,.fr 238,fI,fI,fI,fI,fI,fI,fI,fI,.fr 3,fI,.fr 3,fI,fI,.fr 3,fI,fB,.fr 238,fI,fI,fI,fI,fI,fI,fI,fI,.fr 3,fI,.fr 3,fI,fI,.fr 3,fI,fB,.fr 238]
abbrev AI:List K:=[aB,aB,aB,aB,aB,aB,aB,aB,.sl 3,aB,.sl 3,aB,aB,.sl 3,aB,.bool,.sl 238,aB,aB,aB,aB,aB,aB,aB,aB,.sl 3,aB,.sl 3,aB,aB,.sl 3,aB,.bool,.sl 238,aB,aB,aB,aB,aB,aB,aB,aB,.sl 3,aB,.sl 3,aB,aB,.sl 3,aB,.bool,.sl 238]
abbrev f132:List Lf:=[fI,fI,fI,fI,fI,fI,fI,fI,.fr 3,fI,.fr 3,fI,fI,.fr 3,fI,fB,.fr 238,fI,fI,fI,fI,fI,fI,fI,fI,.fr 3,fI,.fr 3,fI,fI,.fr 3,fI,fB,.fr 238,fI,fI,fI,fI,fI,fI,fI,fI,.fr 3,fI,.fr 3,fI,fI,.fr 3,fI,fB,.fr 238]
abbrev iP:List K:=[.sl 3,aB]
abbrev f136:List Lf:=[.fr 3,fI]
abbrev BJ:List K:=[aB,aB,aB,aB,aB,aB,aB,aB,.sl 3,aB,.sl 3,aB,aB,.sl 3,aB,.bool]
abbrev f137:List Lf:=[fI,fI,fI,fI,fI,fI,fI,fI,.fr 3,fI,.fr 3,fI,fI,.fr 3,fI,fB]
abbrev fU:List K:=[aB,aB,aB,aB,aB,aB,aB,aB,.sl 3,aB,.sl 3,aB,aB,.sl 3,aB,.bool]
abbrev f138:List Lf:=[fI,fI,fI,fI,fI,fI,fI,fI,.fr 3,fI,.fr 3,fI,fI,.fr 3,fI,fB]
abbrev Br:List K:=[aB,aB,aB,aB,aB,aB,aB,aB,.sl 3,aB,.sl 3,aB,aB,.sl 3,aB,.bool,.sl 190]
abbrev f140:List Lf:=[fI,fI,fI,fI,fI,fI,fI,fI,.fr 3,fI,.fr 3,fI,fI,.fr 3,fI,fB,.fr 190]
abbrev kD:List K:=[aB,aB,aB,aB,aB,aB,aB,aB,.sl 3,aB,.sl 3,aB,aB,.sl 3,aB,.bool,.sl 190]
abbrev f141:List Lf:=[fI,fI,fI,fI,fI,fI,fI,fI,.fr 3,fI,.fr 3,fI,fI,.fr 3,fI,fB,.fr 190]
abbrev BI:List K:=[aB,aB,aB,aB,aB,aB,aB,aB,.sl 3,aB,.sl 3,aB,aB,.sl 3,aB,.bool,.sl 190,aB,aB,aB,aB,aB,aB,aB,aB,.sl 3,aB,.sl 3,aB,aB,.sl 3,aB,.bool,.sl 190,aB,aB,aB,aB,aB,aB,aB,aB,.sl 3,aB,.sl 3,aB,aB,.sl 3,aB,.bool,.sl 190]
abbrev f142:List Lf:=[fI,fI,fI,fI,fI,fI,fI,fI,.fr 3,fI,.fr 3,fI,fI,.fr 3,fI,fB,.fr 190,fI,fI,fI,fI,fI,fI,fI,fI,.fr 3,fI,.fr 3,fI,fI,.fr 3,fI,fB,.fr 190,fI,fI,fI,fI,fI,fI,fI,fI,.fr 3,fI,.fr 3,fI,fI,.fr 3,fI,fB,.fr 190]
abbrev sS:List K:=[aB,aB,aB,aB,aB,aB,aB,aB,.sl 3,aB,.sl 3,aB,aB,.sl 3,aB,.bool,.sl 190,aB,aB,aB,aB,aB,aB,aB,aB,.sl 3,aB,.sl 3,aB,aB,.sl 3,aB,.bool,.sl 190,aB,aB,aB,aB,aB,aB,aB,aB,.sl 3,aB,.sl 3,aB,aB,.sl 3,aB,.bool,.sl 190]
abbrev f143:List Lf:=[fI,fI,fI,fI,fI,fI,fI,fI,.fr 3,fI,.fr 3,fI,fI,.fr 3,fI,fB,.fr 190,fI,fI,fI,fI,fI,fI,fI,fI,.fr 3,fI,.fr 3,fI,fI,.fr 3,fI,fB,.fr 190,fI,fI,fI,fI,fI,fI,fI,fI,.fr 3,fI,.fr 3,fI,fI,.fr 3,fI,fB,.fr 190]
abbrev Bo:List K:=[.sl 141,.sl 57]
abbrev f154:List Lf:=[.fr 141,.fr 57]
abbrev sJ:List K:=[.sl 141,.sl 57]
abbrev f155:List Lf:=[.fr 141,.fr 57]
abbrev BL:List K:=[aB,.sl 3]
abbrev f160:List Lf:=[fI,.fr 3]
abbrev rm:List K:=[aB,.sl 3]
abbrev f161:List Lf:=[fI,.fr 3]
abbrev Bw:List K:=[aB,.str,aB,aB,.sl 9,.str,aB,aB,.sl 9,aB,.sl 3,aB,.sl 3]
abbrev f162:List Lf:=[fI,fS,fI,fI,.fr 9,fS,fI,fI,.fr 9,fI,.fr 3,fI,.fr 3]
abbrev vK:List K:=[aB,.str,aB,aB,.sl 9,.str,aB,aB,.sl 9,aB,.sl 3,aB,.sl 3]
abbrev f163:List Lf:=[fI,fS,fI,fI,.fr 9,fS,fI,fI,.fr 9,fI,.fr 3,fI,.fr 3]
abbrev Bt:List K:=[.sl 141,.bool,.str,aB,aB,.sl 9,aB,.sl 3,aB,.str,aB,aB,.sl 9,.str,aB,aB,.sl 9,aB,.sl 3,aB,.sl 3]
abbrev f164:List Lf:=[.fr 141,fB,fS,fI,fI,.fr 9,fI,.fr 3,fI,fS,fI,fI,.fr 9,fS,fI,fI,.fr 9,fI,.fr 3,fI,.fr 3]
abbrev xT:List K:=[.sl 141,.bool,.str,aB,aB,.sl 9,aB,.sl 3,aB,.str,aB,aB,.sl 9,.str,aB,aB,.sl 9,aB,.sl 3,aB,.sl 3]
abbrev f165:List Lf:=[.fr 141,fB,fS,fI,fI,.fr 9,fI,.fr 3,fI,fS,fI,fI,.fr 9,fS,fI,fI,.fr 9,fI,.fr 3,fI,.fr 3]
abbrev Bn:List K:=[.sl 130,.sl 235]
abbrev f182:List Lf:=[.fr 130,.fr 235]
abbrev AB:List K:=[.sl 130,.sl 235]
abbrev f183:List Lf:=[.fr 130,.fr 235]
abbrev BD:List K:=[aB,aB]
abbrev f189:List Lf:=[fI,fI]
abbrev xW:List K:=[aB,aB]
abbrev f190:List Lf:=[fI,fI]
abbrev AF:List K:=[.str,aB,aB,.sl 9]
abbrev f235:List Lf:=[fS,fI,fI,.fr 9]
abbrev A7:List K:=[aB,aB]
abbrev f238:List Lf:=[fI,fI]
def kL:List (Nat×TI):=[
 (2,⟨[aB],false,[],8,false⟩),
 (3,⟨[aB],false,[],8,false⟩),
 (4,⟨[.bool],false,[],1,false⟩),
 (5,⟨[.int .u8],false,[],1,false⟩),
 (6,⟨[.int .u8],false,[],1,false⟩),
 (7,⟨k7,true,[(0,2),(1,3),(2,4),(3,6)],24,false⟩),
 (8,⟨k8,true,[(0,2),(1,3),(2,4),(3,6)],24,false⟩),
 (9,⟨[.str],false,[],16,false⟩),
 (10,⟨[.str],false,[],16,false⟩),
 (11,⟨[.str],false,[],16,false⟩),
 (12,⟨[.int .u64],false,[],8,false⟩),
 (13,⟨ru,true,[(0,9),(1,12)],24,false⟩),
 (14,⟨ry,true,[(0,9),(1,12)],24,false⟩),
 (21,⟨[.int .i32],false,[],4,false⟩),
 (22,⟨[.sl 122],false,[],24,false⟩),
 (23,⟨[.sl 132],false,[],24,false⟩),
 (24,⟨BW,true,[(0,22),(1,23)],48,false⟩),
 (25,⟨Bs,true,[(0,22),(1,23)],48,false⟩),
 (26,⟨[.sl 78],false,[],24,false⟩),
 (27,⟨[.sl 81],false,[],24,false⟩),
 (28,⟨[.sl 9],false,[],24,false⟩),
 (33,⟨[.sl 60],false,[],24,false⟩),
 (34,⟨[.sl 134],false,[],24,false⟩),
 (35,⟨[.sl 143],false,[],24,false⟩),
 (36,⟨B1,true,[(0,34),(1,35)],48,false⟩),
 (37,⟨tE,true,[(0,34),(1,35)],48,false⟩),
 (41,⟨[.sl 88],false,[],24,false⟩),
 (43,⟨[.sl 83],false,[],24,false⟩),
 (56,⟨B2,true,[(0,9),(1,3),(2,3),(3,28)],56,false⟩),
 (57,⟨qV,true,[(0,9),(1,3),(2,3),(3,28)],56,false⟩),
 (58,⟨[.sl 3],false,[],24,false⟩),
 (59,⟨BY,true,[(0,37),(2,3),(3,57),(7,58),(8,3)],144,false⟩),
 (60,⟨Bl,true,[(0,37),(2,3),(3,57),(7,58),(8,3)],144,false⟩),
 (65,⟨[.sl 115],false,[],24,false⟩),
 (68,⟨[.sl 118],false,[],24,false⟩),
 (76,⟨[.sl 183],false,[],24,false⟩),
 (77,⟨B0,true,[(0,76),(1,3)],32,false⟩),
 (78,⟨BC,true,[(0,76),(1,3)],32,false⟩),
 (80,⟨BU,true,[(0,9),(1,3)],24,false⟩),
 (81,⟨BT,true,[(0,9),(1,3)],24,true⟩),
 (83,⟨BS,true,[(0,9),(1,3)],24,true⟩),
 (86,⟨[.sl 155],false,[],24,false⟩),
 (87,⟨BV,true,[(0,86),(1,3)],32,false⟩),
 (88,⟨Be,true,[(0,86),(1,3)],32,false⟩),
 (101,⟨Bq,true,[(0,37),(2,4),(3,57),(7,4),(8,58)],144,false⟩),
 (102,⟨Aw,true,[(0,37),(2,4),(3,57),(7,4),(8,58)],144,false⟩),
 (104,⟨[.sl 165],false,[],24,false⟩),
 (115,⟨BN,true,[(0,9),(1,3)],24,true⟩),
 (118,⟨Bv,true,[(0,9),(1,3)],24,true⟩),
 (122,⟨[.sl 130],false,[],24,false⟩),
 (124,⟨Bx,true,[(0,58),(1,3)],32,false⟩),
 (125,⟨Ae,true,[(0,58),(1,3)],32,false⟩),
 (126,⟨BH,true,[(0,3),(1,3),(2,3),(3,3),(4,3),(5,3),(6,3),(7,3),(8,125),(10,125),(12,3),(13,125),(15,4)],176,false⟩),
 (127,⟨An,true,[(0,3),(1,3),(2,3),(3,3),(4,3),(5,3),(6,3),(7,3),(8,125),(10,125),(12,3),(13,125),(15,4)],176,false⟩),
 (128,⟨[.sl 238],false,[],24,false⟩),
 (129,⟨By,true,[(0,127),(16,128)],200,false⟩),
 (130,⟨Ai,true,[(0,127),(16,128)],200,false⟩),
 (131,⟨Bz,true,[(0,130),(17,130),(34,130)],600,false⟩),
 (132,⟨AI,true,[(0,130),(17,130),(34,130)],600,false⟩),
 (134,⟨[.sl 141],false,[],24,false⟩),
 (136,⟨iP,true,[(0,58),(1,3)],32,false⟩),
 (137,⟨BJ,true,[(0,3),(1,3),(2,3),(3,3),(4,3),(5,3),(6,3),(7,3),(8,136),(10,136),(12,3),(13,136),(15,4)],176,false⟩),
 (138,⟨fU,true,[(0,3),(1,3),(2,3),(3,3),(4,3),(5,3),(6,3),(7,3),(8,136),(10,136),(12,3),(13,136),(15,4)],176,false⟩),
 (139,⟨[.sl 190],false,[],24,false⟩),
 (140,⟨Br,true,[(0,138),(16,139)],200,false⟩),
 (141,⟨kD,true,[(0,138),(16,139)],200,false⟩),
 (142,⟨BI,true,[(0,141),(17,141),(34,141)],600,false⟩),
 (143,⟨sS,true,[(0,141),(17,141),(34,141)],600,false⟩),
 (153,⟨[.sl 57],false,[],24,false⟩),
 (154,⟨Bo,true,[(0,134),(1,153)],48,false⟩),
 (155,⟨sJ,true,[(0,134),(1,153)],48,false⟩),
 (157,⟨[.sl 5],false,[],24,false⟩),
 (160,⟨BL,true,[(0,3),(1,58)],32,false⟩),
 (161,⟨rm,true,[(0,3),(1,58)],32,false⟩),
 (162,⟨Bw,true,[(0,3),(1,57),(5,57),(9,161),(11,161)],184,false⟩),
 (163,⟨vK,true,[(0,3),(1,57),(5,57),(9,161),(11,161)],184,false⟩),
 (164,⟨Bt,true,[(0,134),(1,4),(2,57),(6,161),(8,163)],304,false⟩),
 (165,⟨xT,true,[(0,134),(1,4),(2,57),(6,161),(8,163)],304,false⟩),
 (181,⟨[.sl 235],false,[],24,false⟩),
 (182,⟨Bn,true,[(0,122),(1,181)],48,false⟩),
 (183,⟨AB,true,[(0,122),(1,181)],48,false⟩),
 (189,⟨BD,true,[(0,3),(1,3)],16,false⟩),
 (190,⟨xW,true,[(0,3),(1,3)],16,true⟩),
 (235,⟨AF,true,[(0,9),(1,3),(2,3),(3,28)],56,false⟩),
 (238,⟨A7,true,[(0,3),(1,3)],16,true⟩),
 (286,⟨[.sl 58],false,[],24,false⟩),
 (297,⟨[.int .u32],false,[],4,false⟩),
 (298,⟨[.int .u8],false,[],1,false⟩),
 (299,⟨[.int .u8],false,[],1,false⟩),
 (302,⟨[.int .i32],false,[],4,false⟩),
 (303,⟨[.int .i32],false,[],4,false⟩)]
abbrev Ev:Env:=dD kL
def aF:eL Tryz.prog kL=true:=by kernel_rfl
def mix:Tryz.prog.follows .mixedOrders=true:=by kernel_rfl
abbrev cy:=Valid Tryz.prog Ev
namespace Z0
def F (x0:aC)(x1:Int):aH:=(cond (decide ((i64.wrap (x1 - (x0.length:Int)))<0)) (ret ((-1):Int)) (ret ((i64.wrap (x1 - (x0.length:Int))):Int)))
def md (a0:List Int)(a1:Int):Int:=iM (dP (fun y:Int=>0) a0) a1
def gd (a0:List Int)(a1:Int):Prop:=(bM maxLen (fun y:Int=>True) a0)/\0<=a1/\a1<=1048576
def R:=RR (p2 gd) (u2 md)
def aj {a0 a1}(h:gd a0 a1):R ((a0.map aZ),a1)=some (md a0 a1):=aO (a:=(a0,a1)) h
def aW:=CN [pL 3,pI] oI RT.dec R
def bw (a0)(a1)(hg:gd a0 a1):F (a0.map aZ) a1=ret (md a0 a1):=by
 obtain ⟨hs,g0,g1⟩:=hg
 unfold F md
 rw [List.length_map,nB g0 g1 hs.1]
 have e:dP (fun y:Int=>0) a0=a0.length:=by
  unfold dP
  have :(a0.map (fun y:Int=>0)).sum=0:=qe (fun _=>rfl) a0
  omega
 rw [e]
 by_cases hc:a1<((a0.length:Nat):Int)
 ·rw [cO hc,decide_eq_true (by omega)];rfl
 ·rw [dn hc,decide_eq_false (by omega)];rfl
def af:cy 223 aW:=W2 12 F mix aF bw .nil Tryz.func223
end Z0
namespace Z1
def F (x0:bB)(x1:Int):aH:=(call (Z0.R (x0.aX,x1)) fun v1=>(cond (decide (v1<0)) (ret ((-1):Int)) (ret (v1:Int))))
def md (a0:aM)(a1:Int):Int:=iM (aM.size a0) a1
def gd (a0:aM)(a1:Int):Prop:=(aM.Sm maxLen a0)/\0<=a1/\a1<=1048576
def R:=RR (p2 gd) (u2 md)
def aj {a0 a1}(h:gd a0 a1):R ((aM.r a0),a1)=some (md a0 a1):=aO (a:=(a0,a1)) h
def aW:=CN [.agg Ae,pI] oI RT.dec R
def bw (a0)(a1)(hg:gd a0 a1):F (aM.r a0) a1=ret (md a0 a1):=by
 obtain ⟨hs,g0,g1⟩:=hg
 unfold md
 show (call (Z0.R ((a0.aX.map aZ),a1)) fun v1=>(cond (decide (v1<0)) (ret ((-1):Int)) (ret (v1:Int))))=_
 rw [call_eq (Z0.aj (a1:=a1) ⟨hs,by omega,by omega⟩)]
 unfold Z0.md
 by_cases c0:a1<((dP (fun y:Int=>0) a0.aX:Nat):Int)
 ·rw [cO c0];rw [show iM (aM.size a0) a1=-1 from cO (by unfold aM.size;omega)];try rfl
 rw [dn c0,dh (by omega),bq]
 rw [show iM (aM.size a0) a1=a1 - ((dP (fun y:Int=>0) a0.aX:Nat):Int) from by rw [dn (by unfold aM.size;omega)];unfold aM.size;omega]
def af:cy 179 aW:=W2 12 F mix aF bw (.cons Z0.af .nil) Tryz.func179
end Z1
namespace Z2
def F (x0:bX)(x1:Int):aH:=(call (Z1.R (x0.bO,x1)) fun v1=>(cond (decide (v1<0)) (ret ((-1):Int)) (call (Z1.R (x0.bA,v1)) fun v2=>(cond (decide (v2<0)) (ret ((-1):Int)) (call (Z1.R (x0.bt,v2)) fun v3=>(cond (decide (v3<0)) (ret ((-1):Int)) (ret (v3:Int))))))))
def md (a0:aE)(a1:Int):Int:=iM (aE.size a0) a1
def gd (a0:aE)(a1:Int):Prop:=(aE.Sm maxLen a0)/\0<=a1/\a1<=1048576
def R:=RR (p2 gd) (u2 md)
def aj {a0 a1}(h:gd a0 a1):R ((aE.r a0),a1)=some (md a0 a1):=aO (a:=(a0,a1)) h
def aW:=CN [.agg An,pI] oI RT.dec R
def bw (a0)(a1)(hg:gd a0 a1):F (aE.r a0) a1=ret (md a0 a1):=by
 obtain ⟨hs,g0,g1⟩:=hg
 unfold md
 show (call (Z1.R ((aM.r a0.bO),a1)) fun v1=>(bif (decide (v1<0)) then ret ((-1):Int) else (call (Z1.R ((aM.r a0.bA),v1)) fun v2=>(bif (decide (v2<0)) then ret ((-1):Int) else (call (Z1.R ((aM.r a0.bt),v2)) fun v3=>(cond (decide (v3<0)) (ret ((-1):Int)) (ret (v3:Int))))))))=_
 rw [call_eq (Z1.aj (a1:=a1) ⟨hs.1,by omega,by omega⟩)]
 unfold Z1.md
 by_cases c0:a1<((aM.size a0.bO:Nat):Int)
 ·rw [cO c0];rw [show iM (aE.size a0) a1=-1 from cO (by unfold aE.size;omega)];try rfl
 rw [dn c0,dh (by omega),bq]
 rw [call_eq (Z1.aj (a1:=(a1 - ((aM.size a0.bO:Nat):Int))) ⟨hs.2.1,by omega,by omega⟩)]
 unfold Z1.md
 by_cases c1:(a1 - ((aM.size a0.bO:Nat):Int))<((aM.size a0.bA:Nat):Int)
 ·rw [cO c1];rw [show iM (aE.size a0) a1=-1 from cO (by unfold aE.size;omega)];try rfl
 rw [dn c1,dh (by omega),bq]
 rw [call_eq (Z1.aj (a1:=(a1 - ((aM.size a0.bO:Nat):Int) - ((aM.size a0.bA:Nat):Int))) ⟨hs.2.2,by omega,by omega⟩)]
 unfold Z1.md
 by_cases c2:(a1 - ((aM.size a0.bO:Nat):Int) - ((aM.size a0.bA:Nat):Int))<((aM.size a0.bt:Nat):Int)
 ·rw [cO c2];rw [show iM (aE.size a0) a1=-1 from cO (by unfold aE.size;omega)];try rfl
 rw [dn c2,dh (by omega),bq]
 rw [show iM (aE.size a0) a1=a1 - ((aM.size a0.bO:Nat):Int) - ((aM.size a0.bA:Nat):Int) - ((aM.size a0.bt:Nat):Int) from by rw [dn (by unfold aE.size;omega)];unfold aE.size;omega]
def af:cy 142 aW:=W2 24 F mix aF bw (.cons Z1.af .nil) Tryz.func142
end Z2
namespace Z3
def F (x0:aC)(x1:Int):aH:=(cond (decide ((i64.wrap (x1 - (x0.length:Int)))<0)) (ret ((-1):Int)) (ret ((i64.wrap (x1 - (x0.length:Int))):Int)))
def md (a0:List bk)(a1:Int):Int:=iM (dP (fun y:bk=>bk.size y) a0) a1
def gd (a0:List bk)(a1:Int):Prop:=(bM maxLen (fun y:bk=>bk.Sm maxLen y) a0)/\0<=a1/\a1<=1048576
def R:=RR (p2 gd) (u2 md)
def aj {a0 a1}(h:gd a0 a1):R ((a0.map bk.row),a1)=some (md a0 a1):=aO (a:=(a0,a1)) h
def aW:=CN [pL 238,pI] oI RT.dec R
def bw (a0)(a1)(hg:gd a0 a1):F (a0.map bk.row) a1=ret (md a0 a1):=by
 obtain ⟨hs,g0,g1⟩:=hg
 unfold F md
 rw [List.length_map,nB g0 g1 hs.1]
 have e:dP (fun y:bk=>bk.size y) a0=a0.length:=by
  unfold dP
  have :(a0.map (fun y:bk=>bk.size y)).sum=0:=qe (fun _=>rfl) a0
  omega
 rw [e]
 by_cases hc:a1<((a0.length:Nat):Int)
 ·rw [cO hc,decide_eq_true (by omega)];rfl
 ·rw [dn hc,decide_eq_false (by omega)];rfl
def af:cy 143 aW:=W2 12 F mix aF bw .nil Tryz.func143
end Z3
namespace Z4
def F (x0:aP)(x1:Int):aH:=(call (Z2.R (x0.an,x1)) fun v1=>(cond (decide (v1<0)) (ret ((-1):Int)) (call (Z3.R (x0.bY,v1)) fun v2=>(cond (decide (v2<0)) (ret ((-1):Int)) (ret (v2:Int))))))
def md (a0:aa)(a1:Int):Int:=iM (aa.size a0) a1
def gd (a0:aa)(a1:Int):Prop:=(aa.Sm maxLen a0)/\0<=a1/\a1<=1048576
def R:=RR (p2 gd) (u2 md)
def aj {a0 a1}(h:gd a0 a1):R ((aa.r a0),a1)=some (md a0 a1):=aO (a:=(a0,a1)) h
def aW:=CN [.agg Ai,pI] oI RT.dec R
def bw (a0)(a1)(hg:gd a0 a1):F (aa.r a0) a1=ret (md a0 a1):=by
 obtain ⟨hs,g0,g1⟩:=hg
 unfold md
 show (call (Z2.R ((aE.r a0.an),a1)) fun v1=>(bif (decide (v1<0)) then ret ((-1):Int) else (call (Z3.R ((a0.bY.map bk.row),v1)) fun v2=>(cond (decide (v2<0)) (ret ((-1):Int)) (ret (v2:Int))))))=_
 rw [call_eq (Z2.aj (a1:=a1) ⟨hs.1,by omega,by omega⟩)]
 unfold Z2.md
 by_cases c0:a1<((aE.size a0.an:Nat):Int)
 ·rw [cO c0];rw [show iM (aa.size a0) a1=-1 from cO (by unfold aa.size;omega)];try rfl
 rw [dn c0,dh (by omega),bq]
 rw [call_eq (Z3.aj (a1:=(a1 - ((aE.size a0.an:Nat):Int))) ⟨hs.2,by omega,by omega⟩)]
 unfold Z3.md
 by_cases c1:(a1 - ((aE.size a0.an:Nat):Int))<((dP (fun y:bk=>bk.size y) a0.bY:Nat):Int)
 ·rw [cO c1];rw [show iM (aa.size a0) a1=-1 from cO (by unfold aa.size;omega)];try rfl
 rw [dn c1,dh (by omega),bq]
 rw [show iM (aa.size a0) a1=a1 - ((aE.size a0.an:Nat):Int) - ((dP (fun y:bk=>bk.size y) a0.bY:Nat):Int) from by rw [dn (by unfold aa.size;omega)];unfold aa.size;omega]
def af:cy 113 aW:=W2 18 F mix aF bw (.cons Z2.af (.cons Z3.af .nil)) Tryz.func113
end Z4
namespace Z5
inductive Pt where
 | p0 (a:aC) (b c:Int)
def pid:Pt->Nat
 | .p0 ..=>5
def cj:Pt->List V
 | .p0 a b c=>[.sl none 130 a,.int .i64 b,.int .i64 c]
def cg:Pt->List aV
 | .p0 a b c=>[]
def step (J:Pt->aH):Pt->aH
 | .p0 a b c=>(cond (decide (c<(a.length:Int))) (m2 c (a.length:Int) (call (Z4.R ((aP.at a (toNat c)),b)) fun v1=>(cond (decide (v1<0)) (ret ((-1):Int)) (J (.p0 a v1 (i64.wrap (c+1))))))) (ret (b:Int)))
def start (J:Pt->aH)(x0:aC)(x1:Int):aH:=(cond (decide ((i64.wrap (x1 - (x0.length:Int)))<0)) (ret ((-1):Int)) (J (.p0 x0 (i64.wrap (x1 - (x0.length:Int))) 0)))
def live:Nat->Live:=fun i=>match i with | 5=>[(0,none),(1,none),(5,none)] | _=>[]
def md (a0:List aa)(a1:Int):Int:=iM (dP (fun y:aa=>aa.size y) a0) a1
def gd (a0:List aa)(a1:Int):Prop:=(bM maxLen (fun y:aa=>aa.Sm maxLen y) a0)/\0<=a1/\a1<=1048576
def R:=RR (p2 gd) (u2 md)
def aj {a0 a1}(h:gd a0 a1):R ((a0.map aa.row),a1)=some (md a0 a1):=aO (a:=(a0,a1)) h
def aW:=CN [pL 130,pI] oI RT.dec R
def bw (a0)(a1)(hg:gd a0 a1):∃n,start (iter step n) (a0.map aa.row) a1=ret (md a0 a1):=by
 obtain ⟨hs,g0,g1⟩:=hg
 unfold start md
 simp only [List.length_map]
 refine kf (pt:=fun left i=>Pt.p0 (a0.map aa.row) left (i:Int)) (f:=fun y:aa=>aa.size y) hs.1 (fun J i h left p0 p1=>?_) (fun J left=>?_) g0 g1
 ·simp only [step,MM,List.length_map,aN h,aJ,bg,cE,aa.eD h]
  rw [call_eq (Z4.aj ⟨hs.get h,p0,p1⟩),aG h hs.1]
  unfold Z4.md
  by_cases hc:left<((aa.size (a0[i]):Nat):Int)
  ·rw [cO hc,if_pos hc];rfl
  ·rw [dn hc,if_neg hc,dh (by omega)];rfl
 ·simp only [step,List.length_map,dY,bq]
def af:cy 81 aW:=L2 27 pid cj cg live step start mix aF bw (.cons Z4.af .nil) Tryz.func81
end Z5
namespace Z6
inductive Pt where
 | p0 (a:aC) (b c:Int)
def pid:Pt->Nat
 | .p0 ..=>5
def cj:Pt->List V
 | .p0 a b c=>[.sl none 122 a,.int .i64 b,.int .i64 c]
def cg:Pt->List aV
 | .p0 a b c=>[]
def step (J:Pt->aH):Pt->aH
 | .p0 a b c=>(cond (decide (c<(a.length:Int))) (m2 c (a.length:Int) (call (Z5.R ((oy a (toNat c)),b)) fun v1=>(cond (decide (v1<0)) (ret ((-1):Int)) (J (.p0 a v1 (i64.wrap (c+1))))))) (ret (b:Int)))
def start (J:Pt->aH)(x0:aC)(x1:Int):aH:=(cond (decide ((i64.wrap (x1 - (x0.length:Int)))<0)) (ret ((-1):Int)) (J (.p0 x0 (i64.wrap (x1 - (x0.length:Int))) 0)))
def live:Nat->Live:=fun i=>match i with | 5=>[(0,none),(1,none),(5,none)] | _=>[]
def md (a0:List (List aa))(a1:Int):Int:=iM (dP (fun y:List aa=>dP (fun y:aa=>aa.size y) y) a0) a1
def gd (a0:List (List aa))(a1:Int):Prop:=(bM maxLen (fun y:List aa=>bM maxLen (fun y:aa=>aa.Sm maxLen y) y) a0)/\0<=a1/\a1<=1048576
def R:=RR (p2 gd) (u2 md)
def aj {a0 a1}(h:gd a0 a1):R ((a0.map (dF aa.row)),a1)=some (md a0 a1):=aO (a:=(a0,a1)) h
def aW:=CN [pL 122,pI] oI RT.dec R
def bw (a0)(a1)(hg:gd a0 a1):∃n,start (iter step n) (a0.map (dF aa.row)) a1=ret (md a0 a1):=by
 obtain ⟨hs,g0,g1⟩:=hg
 unfold start md
 simp only [List.length_map]
 refine kf (pt:=fun left i=>Pt.p0 (a0.map (dF aa.row)) left (i:Int)) (f:=fun y:List aa=>dP (fun y:aa=>aa.size y) y) hs.1 (fun J i h left p0 p1=>?_) (fun J left=>?_) g0 g1
 ·simp only [step,MM,List.length_map,aN h,aJ,bg,cE,pU h]
  rw [call_eq (Z5.aj ⟨hs.get h,p0,p1⟩),aG h hs.1]
  unfold Z5.md
  by_cases hc:left<((dP (fun y:aa=>aa.size y) (a0[i]):Nat):Int)
  ·rw [cO hc,if_pos hc];rfl
  ·rw [dn hc,if_neg hc,dh (by omega)];rfl
 ·simp only [step,List.length_map,dY,bq]
def af:cy 39 aW:=L2 27 pid cj cg live step start mix aF bw (.cons Z5.af .nil) Tryz.func39
end Z6
namespace Z7
def F (x0:bF)(x1:Int):aH:=(call (Z4.R (x0.aQ,x1)) fun v1=>(cond (decide (v1<0)) (ret ((-1):Int)) (call (Z4.R (x0.fA,v1)) fun v2=>(cond (decide (v2<0)) (ret ((-1):Int)) (call (Z4.R (x0.fB,v2)) fun v3=>(cond (decide (v3<0)) (ret ((-1):Int)) (ret (v3:Int))))))))
def md (a0:az)(a1:Int):Int:=iM (az.size a0) a1
def gd (a0:az)(a1:Int):Prop:=(az.Sm maxLen a0)/\0<=a1/\a1<=1048576
def R:=RR (p2 gd) (u2 md)
def aj {a0 a1}(h:gd a0 a1):R ((az.r a0),a1)=some (md a0 a1):=aO (a:=(a0,a1)) h
def aW:=CN [.agg AI,pI] oI RT.dec R
def bw (a0)(a1)(hg:gd a0 a1):F (az.r a0) a1=ret (md a0 a1):=by
 obtain ⟨hs,g0,g1⟩:=hg
 unfold md
 show (call (Z4.R ((aa.r a0.aQ),a1)) fun v1=>(bif (decide (v1<0)) then ret ((-1):Int) else (call (Z4.R ((aa.r a0.fA),v1)) fun v2=>(bif (decide (v2<0)) then ret ((-1):Int) else (call (Z4.R ((aa.r a0.fB),v2)) fun v3=>(cond (decide (v3<0)) (ret ((-1):Int)) (ret (v3:Int))))))))=_
 rw [call_eq (Z4.aj (a1:=a1) ⟨hs.1,by omega,by omega⟩)]
 unfold Z4.md
 by_cases c0:a1<((aa.size a0.aQ:Nat):Int)
 ·rw [cO c0];rw [show iM (az.size a0) a1=-1 from cO (by unfold az.size;omega)];try rfl
 rw [dn c0,dh (by omega),bq]
 rw [call_eq (Z4.aj (a1:=(a1 - ((aa.size a0.aQ:Nat):Int))) ⟨hs.2.1,by omega,by omega⟩)]
 unfold Z4.md
 by_cases c1:(a1 - ((aa.size a0.aQ:Nat):Int))<((aa.size a0.fA:Nat):Int)
 ·rw [cO c1];rw [show iM (az.size a0) a1=-1 from cO (by unfold az.size;omega)];try rfl
 rw [dn c1,dh (by omega),bq]
 rw [call_eq (Z4.aj (a1:=(a1 - ((aa.size a0.aQ:Nat):Int) - ((aa.size a0.fA:Nat):Int))) ⟨hs.2.2,by omega,by omega⟩)]
 unfold Z4.md
 by_cases c2:(a1 - ((aa.size a0.aQ:Nat):Int) - ((aa.size a0.fA:Nat):Int))<((aa.size a0.fB:Nat):Int)
 ·rw [cO c2];rw [show iM (az.size a0) a1=-1 from cO (by unfold az.size;omega)];try rfl
 rw [dn c2,dh (by omega),bq]
 rw [show iM (az.size a0) a1=a1 - ((aa.size a0.aQ:Nat):Int) - ((aa.size a0.fA:Nat):Int) - ((aa.size a0.fB:Nat):Int) from by rw [dn (by unfold az.size;omega)];unfold az.size;omega]
def af:cy 82 aW:=W2 24 F mix aF bw (.cons Z4.af .nil) Tryz.func82
end Z7
namespace Z8
inductive Pt where
 | p0 (a:aC) (b c:Int)
def pid:Pt->Nat
 | .p0 ..=>5
def cj:Pt->List V
 | .p0 a b c=>[.sl none 132 a,.int .i64 b,.int .i64 c]
def cg:Pt->List aV
 | .p0 a b c=>[]
def step (J:Pt->aH):Pt->aH
 | .p0 a b c=>(cond (decide (c<(a.length:Int))) (m2 c (a.length:Int) (call (Z7.R ((bF.at a (toNat c)),b)) fun v1=>(cond (decide (v1<0)) (ret ((-1):Int)) (J (.p0 a v1 (i64.wrap (c+1))))))) (ret (b:Int)))
def start (J:Pt->aH)(x0:aC)(x1:Int):aH:=(cond (decide ((i64.wrap (x1 - (x0.length:Int)))<0)) (ret ((-1):Int)) (J (.p0 x0 (i64.wrap (x1 - (x0.length:Int))) 0)))
def live:Nat->Live:=fun i=>match i with | 5=>[(0,none),(1,none),(5,none)] | _=>[]
def md (a0:List az)(a1:Int):Int:=iM (dP (fun y:az=>az.size y) a0) a1
def gd (a0:List az)(a1:Int):Prop:=(bM maxLen (fun y:az=>az.Sm maxLen y) a0)/\0<=a1/\a1<=1048576
def R:=RR (p2 gd) (u2 md)
def aj {a0 a1}(h:gd a0 a1):R ((a0.map az.row),a1)=some (md a0 a1):=aO (a:=(a0,a1)) h
def aW:=CN [pL 132,pI] oI RT.dec R
def bw (a0)(a1)(hg:gd a0 a1):∃n,start (iter step n) (a0.map az.row) a1=ret (md a0 a1):=by
 obtain ⟨hs,g0,g1⟩:=hg
 unfold start md
 simp only [List.length_map]
 refine kf (pt:=fun left i=>Pt.p0 (a0.map az.row) left (i:Int)) (f:=fun y:az=>az.size y) hs.1 (fun J i h left p0 p1=>?_) (fun J left=>?_) g0 g1
 ·simp only [step,MM,List.length_map,aN h,aJ,bg,cE,az.eD h]
  rw [call_eq (Z7.aj ⟨hs.get h,p0,p1⟩),aG h hs.1]
  unfold Z7.md
  by_cases hc:left<((az.size (a0[i]):Nat):Int)
  ·rw [cO hc,if_pos hc];rfl
  ·rw [dn hc,if_neg hc,dh (by omega)];rfl
 ·simp only [step,List.length_map,dY,bq]
def af:cy 40 aW:=L2 27 pid cj cg live step start mix aF bw (.cons Z7.af .nil) Tryz.func40
end Z8
namespace Z9
def F (x0:bu)(x1:Int):aH:=(call (Z6.R (x0.aI,x1)) fun v1=>(cond (decide (v1<0)) (ret ((-1):Int)) (call (Z8.R (x0.bn,v1)) fun v2=>(cond (decide (v2<0)) (ret ((-1):Int)) (ret (v2:Int))))))
def md (a0:aq)(a1:Int):Int:=iM (aq.size a0) a1
def gd (a0:aq)(a1:Int):Prop:=(aq.Sm maxLen a0)/\0<=a1/\a1<=1048576
def R:=RR (p2 gd) (u2 md)
def aj {a0 a1}(h:gd a0 a1):R ((aq.r a0),a1)=some (md a0 a1):=aO (a:=(a0,a1)) h
def aW:=CN [.agg Bs,pI] oI RT.dec R
def bw (a0)(a1)(hg:gd a0 a1):F (aq.r a0) a1=ret (md a0 a1):=by
 obtain ⟨hs,g0,g1⟩:=hg
 unfold md
 show (call (Z6.R ((a0.aI.map (dF aa.row)),a1)) fun v1=>(bif (decide (v1<0)) then ret ((-1):Int) else (call (Z8.R ((a0.bn.map az.row),v1)) fun v2=>(cond (decide (v2<0)) (ret ((-1):Int)) (ret (v2:Int))))))=_
 rw [call_eq (Z6.aj (a1:=a1) ⟨hs.1,by omega,by omega⟩)]
 unfold Z6.md
 by_cases c0:a1<((dP (fun y:List aa=>dP (fun y:aa=>aa.size y) y) a0.aI:Nat):Int)
 ·rw [cO c0];rw [show iM (aq.size a0) a1=-1 from cO (by unfold aq.size;omega)];try rfl
 rw [dn c0,dh (by omega),bq]
 rw [call_eq (Z8.aj (a1:=(a1 - ((dP (fun y:List aa=>dP (fun y:aa=>aa.size y) y) a0.aI:Nat):Int))) ⟨hs.2,by omega,by omega⟩)]
 unfold Z8.md
 by_cases c1:(a1 - ((dP (fun y:List aa=>dP (fun y:aa=>aa.size y) y) a0.aI:Nat):Int))<((dP (fun y:az=>az.size y) a0.bn:Nat):Int)
 ·rw [cO c1];rw [show iM (aq.size a0) a1=-1 from cO (by unfold aq.size;omega)];try rfl
 rw [dn c1,dh (by omega),bq]
 rw [show iM (aq.size a0) a1=a1 - ((dP (fun y:List aa=>dP (fun y:aa=>aa.size y) y) a0.aI:Nat):Int) - ((dP (fun y:az=>az.size y) a0.bn:Nat):Int) from by rw [dn (by unfold aq.size;omega)];unfold aq.size;omega]
def af:cy 6 aW:=W2 18 F mix aF bw (.cons Z6.af (.cons Z8.af .nil)) Tryz.func6
end Z9
namespace Z10
inductive Pt where
 | p0 (a:aC) (b c:Int)
def pid:Pt->Nat
 | .p0 ..=>5
def cj:Pt->List V
 | .p0 a b c=>[.sl none 9 a,.int .i64 b,.int .i64 c]
def cg:Pt->List aV
 | .p0 a b c=>[]
def step (J:Pt->aH):Pt->aH
 | .p0 a b c=>(cond (decide (c<(a.length:Int))) (m2 c (a.length:Int) (cond (decide ((i64.wrap (b - ((pR a (toNat c)).size:Int)))<0)) (ret ((-1):Int)) (J (.p0 a (i64.wrap (b - ((pR a (toNat c)).size:Int))) (i64.wrap (c+1)))))) (ret (b:Int)))
def start (J:Pt->aH)(x0:aC)(x1:Int):aH:=(cond (decide ((i64.wrap (x1 - (x0.length:Int)))<0)) (ret ((-1):Int)) (J (.p0 x0 (i64.wrap (x1 - (x0.length:Int))) 0)))
def live:Nat->Live:=fun i=>match i with | 5=>[(0,none),(1,none),(5,none)] | _=>[]
def md (a0:List aD)(a1:Int):Int:=iM (dP (fun y:aD=>y.size) a0) a1
def gd (a0:List aD)(a1:Int):Prop:=(bM maxLen (fun y:aD=>y.size<=maxLen) a0)/\0<=a1/\a1<=1048576
def R:=RR (p2 gd) (u2 md)
def aj {a0 a1}(h:gd a0 a1):R ((a0.map cC),a1)=some (md a0 a1):=aO (a:=(a0,a1)) h
def aW:=CN [pL 9,pI] oI RT.dec R
def bw (a0)(a1)(hg:gd a0 a1):∃n,start (iter step n) (a0.map cC) a1=ret (md a0 a1):=by
 obtain ⟨hs,g0,g1⟩:=hg
 unfold start md
 simp only [List.length_map]
 refine kf (pt:=fun left i=>Pt.p0 (a0.map cC) left (i:Int)) (f:=fun y:aD=>y.size) hs.1 (fun J i h left p0 p1=>?_) (fun J left=>?_) g0 g1
 ·simp only [step,MM,List.length_map,aN h,aJ,bg,cE,pN h]
  rw [nB p0 p1 (hs.get h),aG h hs.1]
  by_cases hc:left - ((a0[i].size:Nat):Int)<0
  ·rw [decide_eq_true hc,if_pos (by omega)];rfl
  ·rw [decide_eq_false hc,if_neg (by omega)];rfl
 ·simp only [step,List.length_map,dY,bq]
def af:cy 9 aW:=L2 28 pid cj cg live step start mix aF bw .nil Tryz.func9
end Z10
namespace Z11
def F (x0:aU)(x1:Int):aH:=(cond (decide ((i64.wrap (x1 - (x0.bf.size:Int)))<0)) (ret ((-1):Int)) (call (Z10.R (x0.bH,(i64.wrap (x1 - (x0.bf.size:Int))))) fun v1=>(cond (decide (v1<0)) (ret ((-1):Int)) (ret (v1:Int)))))
def md (a0:ah)(a1:Int):Int:=iM (ah.size a0) a1
def gd (a0:ah)(a1:Int):Prop:=(ah.Sm maxLen a0)/\0<=a1/\a1<=1048576
def R:=RR (p2 gd) (u2 md)
def aj {a0 a1}(h:gd a0 a1):R ((ah.r a0),a1)=some (md a0 a1):=aO (a:=(a0,a1)) h
def aW:=CN [.agg AF,pI] oI RT.dec R
def bw (a0)(a1)(hg:gd a0 a1):F (ah.r a0) a1=ret (md a0 a1):=by
 obtain ⟨hs,g0,g1⟩:=hg
 unfold md
 show (bif (decide ((i64.wrap (a1 - (a0.bf.size:Int)))<0)) then ret ((-1):Int) else (call (Z10.R ((a0.bH.map cC),(i64.wrap (a1 - (a0.bf.size:Int))))) fun v1=>(cond (decide (v1<0)) (ret ((-1):Int)) (ret (v1:Int)))))=_
 rw [nB (left:=a1) (s:=a0.bf.size) (by omega) (by omega) hs.1]
 by_cases c0:a1 - ((a0.bf.size:Nat):Int)<0
 ·rw [decide_eq_true c0,bg];rw [show iM (ah.size a0) a1=-1 from cO (by unfold ah.size;omega)];try rfl
 rw [decide_eq_false c0,bq]
 rw [call_eq (Z10.aj (a1:=(a1 - ((a0.bf.size:Nat):Int))) ⟨hs.2,by omega,by omega⟩)]
 unfold Z10.md
 by_cases c1:(a1 - ((a0.bf.size:Nat):Int))<((dP (fun y:aD=>y.size) a0.bH:Nat):Int)
 ·rw [cO c1];rw [show iM (ah.size a0) a1=-1 from cO (by unfold ah.size;omega)];try rfl
 rw [dn c1,dh (by omega),bq]
 rw [show iM (ah.size a0) a1=a1 - ((a0.bf.size:Nat):Int) - ((dP (fun y:aD=>y.size) a0.bH:Nat):Int) from by rw [dn (by unfold ah.size;omega)];unfold ah.size;omega]
def af:cy 180 aW:=W2 19 F mix aF bw (.cons Z10.af .nil) Tryz.func180
end Z11
namespace Z12
inductive Pt where
 | p0 (a:aC) (b c:Int)
def pid:Pt->Nat
 | .p0 ..=>5
def cj:Pt->List V
 | .p0 a b c=>[.sl none 235 a,.int .i64 b,.int .i64 c]
def cg:Pt->List aV
 | .p0 a b c=>[]
def step (J:Pt->aH):Pt->aH
 | .p0 a b c=>(cond (decide (c<(a.length:Int))) (m2 c (a.length:Int) (call (Z11.R ((aU.at a (toNat c)),b)) fun v1=>(cond (decide (v1<0)) (ret ((-1):Int)) (J (.p0 a v1 (i64.wrap (c+1))))))) (ret (b:Int)))
def start (J:Pt->aH)(x0:aC)(x1:Int):aH:=(cond (decide ((i64.wrap (x1 - (x0.length:Int)))<0)) (ret ((-1):Int)) (J (.p0 x0 (i64.wrap (x1 - (x0.length:Int))) 0)))
def live:Nat->Live:=fun i=>match i with | 5=>[(0,none),(1,none),(5,none)] | _=>[]
def md (a0:List ah)(a1:Int):Int:=iM (dP (fun y:ah=>ah.size y) a0) a1
def gd (a0:List ah)(a1:Int):Prop:=(bM maxLen (fun y:ah=>ah.Sm maxLen y) a0)/\0<=a1/\a1<=1048576
def R:=RR (p2 gd) (u2 md)
def aj {a0 a1}(h:gd a0 a1):R ((a0.map ah.row),a1)=some (md a0 a1):=aO (a:=(a0,a1)) h
def aW:=CN [pL 235,pI] oI RT.dec R
def bw (a0)(a1)(hg:gd a0 a1):∃n,start (iter step n) (a0.map ah.row) a1=ret (md a0 a1):=by
 obtain ⟨hs,g0,g1⟩:=hg
 unfold start md
 simp only [List.length_map]
 refine kf (pt:=fun left i=>Pt.p0 (a0.map ah.row) left (i:Int)) (f:=fun y:ah=>ah.size y) hs.1 (fun J i h left p0 p1=>?_) (fun J left=>?_) g0 g1
 ·simp only [step,MM,List.length_map,aN h,aJ,bg,cE,ah.eD h]
  rw [call_eq (Z11.aj ⟨hs.get h,p0,p1⟩),aG h hs.1]
  unfold Z11.md
  by_cases hc:left<((ah.size (a0[i]):Nat):Int)
  ·rw [cO hc,if_pos hc];rfl
  ·rw [dn hc,if_neg hc,dh (by omega)];rfl
 ·simp only [step,List.length_map,dY,bq]
def af:cy 144 aW:=L2 27 pid cj cg live step start mix aF bw (.cons Z11.af .nil) Tryz.func144
end Z12
namespace Z13
def F (x0:dJ)(x1:Int):aH:=(call (Z5.R (x0.aR,x1)) fun v1=>(cond (decide (v1<0)) (ret ((-1):Int)) (call (Z12.R (x0.bK,v1)) fun v2=>(cond (decide (v2<0)) (ret ((-1):Int)) (ret (v2:Int))))))
def md (a0:aK)(a1:Int):Int:=iM (aK.size a0) a1
def gd (a0:aK)(a1:Int):Prop:=(aK.Sm maxLen a0)/\0<=a1/\a1<=1048576
def R:=RR (p2 gd) (u2 md)
def aj {a0 a1}(h:gd a0 a1):R ((aK.r a0),a1)=some (md a0 a1):=aO (a:=(a0,a1)) h
def aW:=CN [.agg AB,pI] oI RT.dec R
def bw (a0)(a1)(hg:gd a0 a1):F (aK.r a0) a1=ret (md a0 a1):=by
 obtain ⟨hs,g0,g1⟩:=hg
 unfold md
 show (call (Z5.R ((a0.aR.map aa.row),a1)) fun v1=>(bif (decide (v1<0)) then ret ((-1):Int) else (call (Z12.R ((a0.bK.map ah.row),v1)) fun v2=>(cond (decide (v2<0)) (ret ((-1):Int)) (ret (v2:Int))))))=_
 rw [call_eq (Z5.aj (a1:=a1) ⟨hs.1,by omega,by omega⟩)]
 unfold Z5.md
 by_cases c0:a1<((dP (fun y:aa=>aa.size y) a0.aR:Nat):Int)
 ·rw [cO c0];rw [show iM (aK.size a0) a1=-1 from cO (by unfold aK.size;omega)];try rfl
 rw [dn c0,dh (by omega),bq]
 rw [call_eq (Z12.aj (a1:=(a1 - ((dP (fun y:aa=>aa.size y) a0.aR:Nat):Int))) ⟨hs.2,by omega,by omega⟩)]
 unfold Z12.md
 by_cases c1:(a1 - ((dP (fun y:aa=>aa.size y) a0.aR:Nat):Int))<((dP (fun y:ah=>ah.size y) a0.bK:Nat):Int)
 ·rw [cO c1];rw [show iM (aK.size a0) a1=-1 from cO (by unfold aK.size;omega)];try rfl
 rw [dn c1,dh (by omega),bq]
 rw [show iM (aK.size a0) a1=a1 - ((dP (fun y:aa=>aa.size y) a0.aR:Nat):Int) - ((dP (fun y:ah=>ah.size y) a0.bK:Nat):Int) from by rw [dn (by unfold aK.size;omega)];unfold aK.size;omega]
def af:cy 114 aW:=W2 18 F mix aF bw (.cons Z5.af (.cons Z12.af .nil)) Tryz.func114
end Z13
namespace Z14
inductive Pt where
 | p0 (a:aC) (b c:Int)
def pid:Pt->Nat
 | .p0 ..=>5
def cj:Pt->List V
 | .p0 a b c=>[.sl none 183 a,.int .i64 b,.int .i64 c]
def cg:Pt->List aV
 | .p0 a b c=>[]
def step (J:Pt->aH):Pt->aH
 | .p0 a b c=>(cond (decide (c<(a.length:Int))) (m2 c (a.length:Int) (call (Z13.R ((dJ.at a (toNat c)),b)) fun v1=>(cond (decide (v1<0)) (ret ((-1):Int)) (J (.p0 a v1 (i64.wrap (c+1))))))) (ret (b:Int)))
def start (J:Pt->aH)(x0:aC)(x1:Int):aH:=(cond (decide ((i64.wrap (x1 - (x0.length:Int)))<0)) (ret ((-1):Int)) (J (.p0 x0 (i64.wrap (x1 - (x0.length:Int))) 0)))
def live:Nat->Live:=fun i=>match i with | 5=>[(0,none),(1,none),(5,none)] | _=>[]
def md (a0:List aK)(a1:Int):Int:=iM (dP (fun y:aK=>aK.size y) a0) a1
def gd (a0:List aK)(a1:Int):Prop:=(bM maxLen (fun y:aK=>aK.Sm maxLen y) a0)/\0<=a1/\a1<=1048576
def R:=RR (p2 gd) (u2 md)
def aj {a0 a1}(h:gd a0 a1):R ((a0.map aK.row),a1)=some (md a0 a1):=aO (a:=(a0,a1)) h
def aW:=CN [pL 183,pI] oI RT.dec R
def bw (a0)(a1)(hg:gd a0 a1):∃n,start (iter step n) (a0.map aK.row) a1=ret (md a0 a1):=by
 obtain ⟨hs,g0,g1⟩:=hg
 unfold start md
 simp only [List.length_map]
 refine kf (pt:=fun left i=>Pt.p0 (a0.map aK.row) left (i:Int)) (f:=fun y:aK=>aK.size y) hs.1 (fun J i h left p0 p1=>?_) (fun J left=>?_) g0 g1
 ·simp only [step,MM,List.length_map,aN h,aJ,bg,cE,aK.eD h]
  rw [call_eq (Z13.aj ⟨hs.get h,p0,p1⟩),aG h hs.1]
  unfold Z13.md
  by_cases hc:left<((aK.size (a0[i]):Nat):Int)
  ·rw [cO hc,if_pos hc];rfl
  ·rw [dn hc,if_neg hc,dh (by omega)];rfl
 ·simp only [step,List.length_map,dY,bq]
def af:cy 83 aW:=L2 27 pid cj cg live step start mix aF bw (.cons Z13.af .nil) Tryz.func83
end Z14
namespace Z15
def F (x0:cI)(x1:Int):aH:=(call (Z14.R (x0.bG,x1)) fun v1=>(cond (decide (v1<0)) (ret ((-1):Int)) (ret (v1:Int))))
def md (a0:ay)(a1:Int):Int:=iM (ay.size a0) a1
def gd (a0:ay)(a1:Int):Prop:=(ay.Sm maxLen a0)/\0<=a1/\a1<=1048576
def R:=RR (p2 gd) (u2 md)
def aj {a0 a1}(h:gd a0 a1):R ((ay.r a0),a1)=some (md a0 a1):=aO (a:=(a0,a1)) h
def aW:=CN [.agg BC,pI] oI RT.dec R
def bw (a0)(a1)(hg:gd a0 a1):F (ay.r a0) a1=ret (md a0 a1):=by
 obtain ⟨hs,g0,g1⟩:=hg
 unfold md
 show (call (Z14.R ((a0.bG.map aK.row),a1)) fun v1=>(cond (decide (v1<0)) (ret ((-1):Int)) (ret (v1:Int))))=_
 rw [call_eq (Z14.aj (a1:=a1) ⟨hs,by omega,by omega⟩)]
 unfold Z14.md
 by_cases c0:a1<((dP (fun y:aK=>aK.size y) a0.bG:Nat):Int)
 ·rw [cO c0];rw [show iM (ay.size a0) a1=-1 from cO (by unfold ay.size;omega)];try rfl
 rw [dn c0,dh (by omega),bq]
 rw [show iM (ay.size a0) a1=a1 - ((dP (fun y:aK=>aK.size y) a0.bG:Nat):Int) from by rw [dn (by unfold ay.size;omega)];unfold ay.size;omega]
def af:cy 41 aW:=W2 12 F mix aF bw (.cons Z14.af .nil) Tryz.func41
end Z15
namespace Z16
inductive Pt where
 | p0 (a:aC) (b c:Int)
def pid:Pt->Nat
 | .p0 ..=>5
def cj:Pt->List V
 | .p0 a b c=>[.sl none 78 a,.int .i64 b,.int .i64 c]
def cg:Pt->List aV
 | .p0 a b c=>[]
def step (J:Pt->aH):Pt->aH
 | .p0 a b c=>(cond (decide (c<(a.length:Int))) (m2 c (a.length:Int) (call (Z15.R ((cI.at a (toNat c)),b)) fun v1=>(cond (decide (v1<0)) (ret ((-1):Int)) (J (.p0 a v1 (i64.wrap (c+1))))))) (ret (b:Int)))
def start (J:Pt->aH)(x0:aC)(x1:Int):aH:=(cond (decide ((i64.wrap (x1 - (x0.length:Int)))<0)) (ret ((-1):Int)) (J (.p0 x0 (i64.wrap (x1 - (x0.length:Int))) 0)))
def live:Nat->Live:=fun i=>match i with | 5=>[(0,none),(1,none),(5,none)] | _=>[]
def md (a0:List ay)(a1:Int):Int:=iM (dP (fun y:ay=>ay.size y) a0) a1
def gd (a0:List ay)(a1:Int):Prop:=(bM maxLen (fun y:ay=>ay.Sm maxLen y) a0)/\0<=a1/\a1<=1048576
def R:=RR (p2 gd) (u2 md)
def aj {a0 a1}(h:gd a0 a1):R ((a0.map ay.row),a1)=some (md a0 a1):=aO (a:=(a0,a1)) h
def aW:=CN [pL 78,pI] oI RT.dec R
def bw (a0)(a1)(hg:gd a0 a1):∃n,start (iter step n) (a0.map ay.row) a1=ret (md a0 a1):=by
 obtain ⟨hs,g0,g1⟩:=hg
 unfold start md
 simp only [List.length_map]
 refine kf (pt:=fun left i=>Pt.p0 (a0.map ay.row) left (i:Int)) (f:=fun y:ay=>ay.size y) hs.1 (fun J i h left p0 p1=>?_) (fun J left=>?_) g0 g1
 ·simp only [step,MM,List.length_map,aN h,aJ,bg,cE,ay.eD h]
  rw [call_eq (Z15.aj ⟨hs.get h,p0,p1⟩),aG h hs.1]
  unfold Z15.md
  by_cases hc:left<((ay.size (a0[i]):Nat):Int)
  ·rw [cO hc,if_pos hc];rfl
  ·rw [dn hc,if_neg hc,dh (by omega)];rfl
 ·simp only [step,List.length_map,dY,bq]
def af:cy 7 aW:=L2 27 pid cj cg live step start mix aF bw (.cons Z15.af .nil) Tryz.func7
end Z16
namespace Z17
inductive Pt where
 | p0 (a:aC) (b:Int) (c:aC)
def pid:Pt->Nat
 | .p0 ..=>3
def cj:Pt->List V
 | .p0 a b c=>[.sl none 3 a,.own 0,.int .i64 b]
def cg:Pt->List aV
 | .p0 a b c=>[.row 3 c]
def step (J:Pt->aH):Pt->aH
 | .p0 a b c=>(cond (decide (b<(a.length:Int))) (m2 b (a.length:Int) (m2 b (c.length:Int) (J (.p0 a (i64.wrap (b+1)) (List.set c (toNat b) [L.int (jh a (toNat b))]))))) (ret (c:aC)))
def start (J:Pt->aH)(x0:aC):aH:=(bZ (decide ((0:Int)<=(x0.length:Int))) (bZ (decide ((x0.length:Int)<=(x0.length:Int))) (bZ (decide ((x0.length:Int)*8<=140737488355328)) (J (.p0 x0 0 (List.replicate (toNat (x0.length:Int)) [L.int 0]))))))
def live:Nat->Live:=fun i=>match i with | 3=>[(0,none),(3,none),(4,none)] | _=>[]
def md (a0:List Int):List Int:=a0
def gd (a0:List Int):Prop:=bM (2^36) (fun y:Int=>True) a0
def R:=RR gd md
def aj {a0}(h:gd a0):R (a0.map aZ)=some (a0.map aZ):=aO (a:=a0) h
def aW:=CN [pL 3] (oL 3) RT.dec R
def bw (a0)(hg:gd a0):∃n,start (iter step n) (a0.map aZ)=ret ((md a0).map aZ):=by
 unfold start md
 simp only [List.length_map]
 refine iO (b:=8) (pt:=fun i c=>Pt.p0 (a0.map aZ) (i:Int) c) (by have:=hg.1;simp at this;omega) (fun J i h c hc=>?_) (fun J c=>?_)
 ·simp only [step,MM,List.length_map,aN h,aJ,bg,cE,sL h,hc]
  rw [aG (n:=a0.length) h (by have:=hg.1;simp only [maxLen];simp at this;omega)]
  rfl
 ·simp only [step,List.length_map,dY,bq]
def af:cy 224 aW:=L1 22 pid cj cg live step start mix aF bw .nil Tryz.func224
end Z17
namespace Z18
def F (x0:bB):aH:=(call (Z17.R x0.aX) fun v1=>ret ((⟨v1,x0.cz⟩:bB):bB))
def md (a0:aM):aM:=a0
def gd (a0:aM):Prop:=aM.Sm (2^36) a0
def R:=RR gd md
def aj {a0}(h:gd a0):R (aM.r a0)=some (aM.r a0):=aO (a:=a0) h
def aW:=CN [.agg Ae] (.agg f136) RT.dec R
def bw (a0)(hg:gd a0):F (aM.r a0)=ret (aM.r (md a0)):=by
 unfold md
 show (call (Z17.R (a0.aX.map aZ)) fun v1=>ret ((⟨v1,a0.cz⟩:bB):bB))=_
 rw [call_eq (Z17.aj hg)]
 rfl
def af:cy 181 aW:=W1 12 F mix aF bw (.cons Z17.af .nil) Tryz.func181
end Z18
namespace Z19
def F (x0:bX):aH:=(call (Z18.R x0.bO) fun v1=>(call (Z18.R x0.bA) fun v2=>(call (Z18.R x0.bt) fun v3=>ret ((⟨x0.bD,x0.cD,x0.bJ,x0.cA,x0.cu,x0.ck,x0.cQ,x0.dw,v1,v2,x0.cT,v3,x0.bC⟩:bX):bX))))
def md (a0:aE):aE:=a0
def gd (a0:aE):Prop:=aE.Sm (2^36) a0
def R:=RR gd md
def aj {a0}(h:gd a0):R (aE.r a0)=some (aE.r a0):=aO (a:=a0) h
def aW:=CN [.agg An] (.agg f138) RT.dec R
def bw (a0)(hg:gd a0):F (aE.r a0)=ret (aE.r (md a0)):=by
 unfold md
 show (call (Z18.R (aM.r a0.bO)) fun v1=>(call (Z18.R (aM.r a0.bA)) fun v2=>(call (Z18.R (aM.r a0.bt)) fun v3=>ret ((⟨a0.bD,a0.cD,a0.bJ,a0.cA,a0.cu,a0.ck,a0.cQ,a0.dw,v1,v2,a0.cT,v3,a0.bC⟩:bX):bX))))=_
 rw [call_eq (Z18.aj hg.1)]
 rw [call_eq (Z18.aj hg.2.1)]
 rw [call_eq (Z18.aj hg.2.2)]
 rfl
def af:cy 145 aW:=W1 47 F mix aF bw (.cons Z18.af .nil) Tryz.func145
end Z19
namespace Z20
def F (x0:bk):aH:=ret (x0:bk)
def md (a0:bk):bk:=a0
def gd (a0:bk):Prop:=bk.Sm (2^36) a0
def R:=RR gd md
def aj {a0}(h:gd a0):R a0=some a0:=aO (a:=a0) h
def aW:=CN [.agg A7] (.agg f190) RT.dec R
def bw (a0)(hg:gd a0):F a0=ret (md a0):=by
 rfl
def af:cy 182 aW:=W1 11 F mix aF bw .nil Tryz.func182
end Z20
namespace Z21
inductive Pt where
 | p0 (a:aC) (b:Int) (c:aC)
def pid:Pt->Nat
 | .p0 ..=>3
def cj:Pt->List V
 | .p0 a b c=>[.sl none 238 a,.own 0,.int .i64 b]
def cg:Pt->List aV
 | .p0 a b c=>[.row 190 c]
def step (J:Pt->aH):Pt->aH
 | .p0 a b c=>(cond (decide (b<(a.length:Int))) (m2 b (a.length:Int) (call (Z20.R (bk.at a (toNat b))) fun v1=>(m2 b (c.length:Int) (J (.p0 a (i64.wrap (b+1)) (List.set c (toNat b) (bk.enc v1))))))) (ret (c:aC)))
def start (J:Pt->aH)(x0:aC):aH:=(bZ (decide ((0:Int)<=(x0.length:Int))) (bZ (decide ((x0.length:Int)<=(x0.length:Int))) (bZ (decide ((x0.length:Int)*16<=140737488355328)) (J (.p0 x0 0 (List.replicate (toNat (x0.length:Int)) [L.int 0,L.int 0]))))))
def live:Nat->Live:=fun i=>match i with | 3=>[(0,none),(3,none),(4,none)] | _=>[]
def md (a0:List bk):List bk:=a0
def gd (a0:List bk):Prop:=bM (2^36) (fun y:bk=>bk.Sm (2^36) y) a0
def R:=RR gd md
def aj {a0}(h:gd a0):R (a0.map bk.row)=some (a0.map bk.row):=aO (a:=a0) h
def aW:=CN [pL 238] (oL 190) RT.dec R
def bw (a0)(hg:gd a0):∃n,start (iter step n) (a0.map bk.row)=ret ((md a0).map bk.row):=by
 unfold start md
 simp only [List.length_map]
 refine iO (b:=16) (pt:=fun i c=>Pt.p0 (a0.map bk.row) (i:Int) c) (by have:=hg.1;simp at this;omega) (fun J i h c hc=>?_) (fun J c=>?_)
 ·simp only [step,MM,List.length_map,aN h,aJ,bg,cE,bk.eD h,hc]
  rw [call_eq (Z20.aj (hg.get h))]
  try simp only [hc,aN h,bg]
  rw [aG (n:=a0.length) h (by have:=hg.1;simp only [maxLen];simp at this;omega)]
  rfl
 ·simp only [step,List.length_map,dY,bq]
def af:cy 146 aW:=L1 23 pid cj cg live step start mix aF bw (.cons Z20.af .nil) Tryz.func146
end Z21
namespace Z22
def F (x0:aP):aH:=(call (Z19.R x0.an) fun v1=>(call (Z21.R x0.bY) fun v2=>ret ((⟨v1,v2⟩:aP):aP)))
def md (a0:aa):aa:=a0
def gd (a0:aa):Prop:=aa.Sm (2^36) a0
def R:=RR gd md
def aj {a0}(h:gd a0):R (aa.r a0)=some (aa.r a0):=aO (a:=a0) h
def aW:=CN [.agg Ai] (.agg f141) RT.dec R
def bw (a0)(hg:gd a0):F (aa.r a0)=ret (aa.r (md a0)):=by
 unfold md
 show (call (Z19.R (aE.r a0.an)) fun v1=>(call (Z21.R (a0.bY.map bk.row)) fun v2=>ret ((⟨v1,v2⟩:aP):aP)))=_
 rw [call_eq (Z19.aj hg.1)]
 rw [call_eq (Z21.aj hg.2)]
 rfl
def af:cy 116 aW:=W1 13 F mix aF bw (.cons Z19.af (.cons Z21.af .nil)) Tryz.func116
end Z22
namespace Z23
inductive Pt where
 | p0 (a:aC) (b:Int) (c:aC)
def pid:Pt->Nat
 | .p0 ..=>3
def cj:Pt->List V
 | .p0 a b c=>[.sl none 130 a,.own 0,.int .i64 b]
def cg:Pt->List aV
 | .p0 a b c=>[.row 141 c]
def step (J:Pt->aH):Pt->aH
 | .p0 a b c=>(cond (decide (b<(a.length:Int))) (m2 b (a.length:Int) (call (Z22.R (aP.at a (toNat b))) fun v1=>(m2 b (c.length:Int) (J (.p0 a (i64.wrap (b+1)) (List.set c (toNat b) (aP.enc v1))))))) (ret (c:aC)))
def start (J:Pt->aH)(x0:aC):aH:=(bZ (decide ((0:Int)<=(x0.length:Int))) (bZ (decide ((x0.length:Int)<=(x0.length:Int))) (bZ (decide ((x0.length:Int)*200<=140737488355328)) (J (.p0 x0 0 (List.replicate (toNat (x0.length:Int)) [L.int 0,L.int 0,L.int 0,L.int 0,L.int 0,L.int 0,L.int 0,L.int 0,L.sl [],L.int 0,L.sl [],L.int 0,L.int 0,L.sl [],L.int 0,L.bool false,L.sl []]))))))
def live:Nat->Live:=fun i=>match i with | 3=>[(0,none),(3,none),(4,none)] | _=>[]
def md (a0:List aa):List aa:=a0
def gd (a0:List aa):Prop:=bM (2^36) (fun y:aa=>aa.Sm (2^36) y) a0
def R:=RR gd md
def aj {a0}(h:gd a0):R (a0.map aa.row)=some (a0.map aa.row):=aO (a:=a0) h
def aW:=CN [pL 130] (oL 141) RT.dec R
def bw (a0)(hg:gd a0):∃n,start (iter step n) (a0.map aa.row)=ret ((md a0).map aa.row):=by
 unfold start md
 simp only [List.length_map]
 refine iO (b:=200) (pt:=fun i c=>Pt.p0 (a0.map aa.row) (i:Int) c) (by have:=hg.1;simp at this;omega) (fun J i h c hc=>?_) (fun J c=>?_)
 ·simp only [step,MM,List.length_map,aN h,aJ,bg,cE,aa.eD h,hc]
  rw [call_eq (Z22.aj (hg.get h))]
  try simp only [hc,aN h,bg]
  rw [aG (n:=a0.length) h (by have:=hg.1;simp only [maxLen];simp at this;omega)]
  rfl
 ·simp only [step,List.length_map,dY,bq]
def af:cy 86 aW:=L1 23 pid cj cg live step start mix aF bw (.cons Z22.af .nil) Tryz.func86
end Z23
namespace Z24
inductive Pt where
 | p0 (a:aC) (b:Int) (c:aC)
def pid:Pt->Nat
 | .p0 ..=>3
def cj:Pt->List V
 | .p0 a b c=>[.sl none 122 a,.own 0,.int .i64 b]
def cg:Pt->List aV
 | .p0 a b c=>[.row 134 c]
def step (J:Pt->aH):Pt->aH
 | .p0 a b c=>(cond (decide (b<(a.length:Int))) (m2 b (a.length:Int) (call (Z23.R (oy a (toNat b))) fun v1=>(m2 b (c.length:Int) (J (.p0 a (i64.wrap (b+1)) (List.set c (toNat b) [L.sl v1])))))) (ret (c:aC)))
def start (J:Pt->aH)(x0:aC):aH:=(bZ (decide ((0:Int)<=(x0.length:Int))) (bZ (decide ((x0.length:Int)<=(x0.length:Int))) (bZ (decide ((x0.length:Int)*24<=140737488355328)) (J (.p0 x0 0 (List.replicate (toNat (x0.length:Int)) [L.sl []]))))))
def live:Nat->Live:=fun i=>match i with | 3=>[(0,none),(3,none),(4,none)] | _=>[]
def md (a0:List (List aa)):List (List aa):=a0
def gd (a0:List (List aa)):Prop:=bM (2^36) (fun y:List aa=>bM (2^36) (fun y:aa=>aa.Sm (2^36) y) y) a0
def R:=RR gd md
def aj {a0}(h:gd a0):R (a0.map (dF aa.row))=some (a0.map (dF aa.row)):=aO (a:=a0) h
def aW:=CN [pL 122] (oL 134) RT.dec R
def bw (a0)(hg:gd a0):∃n,start (iter step n) (a0.map (dF aa.row))=ret ((md a0).map (dF aa.row)):=by
 unfold start md
 simp only [List.length_map]
 refine iO (b:=24) (pt:=fun i c=>Pt.p0 (a0.map (dF aa.row)) (i:Int) c) (by have:=hg.1;simp at this;omega) (fun J i h c hc=>?_) (fun J c=>?_)
 ·simp only [step,MM,List.length_map,aN h,aJ,bg,cE,pU h,hc]
  rw [call_eq (Z23.aj (hg.get h))]
  try simp only [hc,aN h,bg]
  rw [aG (n:=a0.length) h (by have:=hg.1;simp only [maxLen];simp at this;omega)]
  rfl
 ·simp only [step,List.length_map,dY,bq]
def af:cy 44 aW:=L1 23 pid cj cg live step start mix aF bw (.cons Z23.af .nil) Tryz.func44
end Z24
namespace Z25
def F (x0:bF):aH:=(call (Z22.R x0.aQ) fun v1=>(call (Z22.R x0.fA) fun v2=>(call (Z22.R x0.fB) fun v3=>ret ((⟨v1,v2,v3⟩:bF):bF))))
def md (a0:az):az:=a0
def gd (a0:az):Prop:=az.Sm (2^36) a0
def R:=RR gd md
def aj {a0}(h:gd a0):R (az.r a0)=some (az.r a0):=aO (a:=a0) h
def aW:=CN [.agg AI] (.agg f143) RT.dec R
def bw (a0)(hg:gd a0):F (az.r a0)=ret (az.r (md a0)):=by
 unfold md
 show (call (Z22.R (aa.r a0.aQ)) fun v1=>(call (Z22.R (aa.r a0.fA)) fun v2=>(call (Z22.R (aa.r a0.fB)) fun v3=>ret ((⟨v1,v2,v3⟩:bF):bF))))=_
 rw [call_eq (Z22.aj hg.1)]
 rw [call_eq (Z22.aj hg.2.1)]
 rw [call_eq (Z22.aj hg.2.2)]
 rfl
def af:cy 87 aW:=W1 17 F mix aF bw (.cons Z22.af .nil) Tryz.func87
end Z25
namespace Z26
inductive Pt where
 | p0 (a:aC) (b:Int) (c:aC)
def pid:Pt->Nat
 | .p0 ..=>3
def cj:Pt->List V
 | .p0 a b c=>[.sl none 132 a,.own 0,.int .i64 b]
def cg:Pt->List aV
 | .p0 a b c=>[.row 143 c]
def step (J:Pt->aH):Pt->aH
 | .p0 a b c=>(cond (decide (b<(a.length:Int))) (m2 b (a.length:Int) (call (Z25.R (bF.at a (toNat b))) fun v1=>(m2 b (c.length:Int) (J (.p0 a (i64.wrap (b+1)) (List.set c (toNat b) (bF.enc v1))))))) (ret (c:aC)))
def start (J:Pt->aH)(x0:aC):aH:=(bZ (decide ((0:Int)<=(x0.length:Int))) (bZ (decide ((x0.length:Int)<=(x0.length:Int))) (bZ (decide ((x0.length:Int)*600<=140737488355328)) (J (.p0 x0 0 (List.replicate (toNat (x0.length:Int)) [L.int 0,L.int 0,L.int 0,L.int 0,L.int 0,L.int 0,L.int 0,L.int 0,L.sl [],L.int 0,L.sl [],L.int 0,L.int 0,L.sl [],L.int 0,L.bool false,L.sl [],L.int 0,L.int 0,L.int 0,L.int 0,L.int 0,L.int 0,L.int 0,L.int 0,L.sl [],L.int 0,L.sl [],L.int 0,L.int 0,L.sl [],L.int 0,L.bool false,L.sl [],L.int 0,L.int 0,L.int 0,L.int 0,L.int 0,L.int 0,L.int 0,L.int 0,L.sl [],L.int 0,L.sl [],L.int 0,L.int 0,L.sl [],L.int 0,L.bool false,L.sl []]))))))
def live:Nat->Live:=fun i=>match i with | 3=>[(0,none),(3,none),(4,none)] | _=>[]
def md (a0:List az):List az:=a0
def gd (a0:List az):Prop:=bM (2^36) (fun y:az=>az.Sm (2^36) y) a0
def R:=RR gd md
def aj {a0}(h:gd a0):R (a0.map az.row)=some (a0.map az.row):=aO (a:=a0) h
def aW:=CN [pL 132] (oL 143) RT.dec R
def bw (a0)(hg:gd a0):∃n,start (iter step n) (a0.map az.row)=ret ((md a0).map az.row):=by
 unfold start md
 simp only [List.length_map]
 refine iO (b:=600) (pt:=fun i c=>Pt.p0 (a0.map az.row) (i:Int) c) (by have:=hg.1;simp at this;omega) (fun J i h c hc=>?_) (fun J c=>?_)
 ·simp only [step,MM,List.length_map,aN h,aJ,bg,cE,az.eD h,hc]
  rw [call_eq (Z25.aj (hg.get h))]
  try simp only [hc,aN h,bg]
  rw [aG (n:=a0.length) h (by have:=hg.1;simp only [maxLen];simp at this;omega)]
  rfl
 ·simp only [step,List.length_map,dY,bq]
def af:cy 45 aW:=L1 23 pid cj cg live step start mix aF bw (.cons Z25.af .nil) Tryz.func45
end Z26
namespace Z27
def F (x0:bu):aH:=(call (Z24.R x0.aI) fun v1=>(call (Z26.R x0.bn) fun v2=>ret ((⟨v1,v2⟩:bu):bu)))
def md (a0:aq):aq:=a0
def gd (a0:aq):Prop:=aq.Sm (2^36) a0
def R:=RR gd md
def aj {a0}(h:gd a0):R (aq.r a0)=some (aq.r a0):=aO (a:=a0) h
def aW:=CN [.agg Bs] (.agg f37) RT.dec R
def bw (a0)(hg:gd a0):F (aq.r a0)=ret (aq.r (md a0)):=by
 unfold md
 show (call (Z24.R (a0.aI.map (dF aa.row))) fun v1=>(call (Z26.R (a0.bn.map az.row)) fun v2=>ret ((⟨v1,v2⟩:bu):bu)))=_
 rw [call_eq (Z24.aj hg.1)]
 rw [call_eq (Z26.aj hg.2)]
 rfl
def af:cy 11 aW:=W1 13 F mix aF bw (.cons Z24.af (.cons Z26.af .nil)) Tryz.func11
end Z27
namespace Z28
inductive Pt where
 | p0 (a:aC) (b:Int) (c:aC)
def pid:Pt->Nat
 | .p0 ..=>3
def cj:Pt->List V
 | .p0 a b c=>[.sl none 9 a,.own 0,.int .i64 b]
def cg:Pt->List aV
 | .p0 a b c=>[.row 9 c]
def step (J:Pt->aH):Pt->aH
 | .p0 a b c=>(cond (decide (b<(a.length:Int))) (m2 b (a.length:Int) (m2 b (c.length:Int) (J (.p0 a (i64.wrap (b+1)) (List.set c (toNat b) [L.str (pR a (toNat b))]))))) (ret (c:aC)))
def start (J:Pt->aH)(x0:aC):aH:=(bZ (decide ((0:Int)<=(x0.length:Int))) (bZ (decide ((x0.length:Int)<=(x0.length:Int))) (bZ (decide ((x0.length:Int)*16<=140737488355328)) (J (.p0 x0 0 (List.replicate (toNat (x0.length:Int)) [L.str ⟨#[]⟩]))))))
def live:Nat->Live:=fun i=>match i with | 3=>[(0,none),(3,none),(4,none)] | _=>[]
def md (a0:List aD):List aD:=a0
def gd (a0:List aD):Prop:=bM (2^36) (fun y:aD=>y.size<=(2^36)) a0
def R:=RR gd md
def aj {a0}(h:gd a0):R (a0.map cC)=some (a0.map cC):=aO (a:=a0) h
def aW:=CN [pL 9] (oL 9) RT.dec R
def bw (a0)(hg:gd a0):∃n,start (iter step n) (a0.map cC)=ret ((md a0).map cC):=by
 unfold start md
 simp only [List.length_map]
 refine iO (b:=16) (pt:=fun i c=>Pt.p0 (a0.map cC) (i:Int) c) (by have:=hg.1;simp at this;omega) (fun J i h c hc=>?_) (fun J c=>?_)
 ·simp only [step,MM,List.length_map,aN h,aJ,bg,cE,pN h,hc]
  rw [aG (n:=a0.length) h (by have:=hg.1;simp only [maxLen];simp at this;omega)]
  rfl
 ·simp only [step,List.length_map,dY,bq]
def af:cy 14 aW:=L1 22 pid cj cg live step start mix aF bw .nil Tryz.func14
end Z28
namespace Z29
def F (x0:aU):aH:=(call (Z28.R x0.bH) fun v1=>ret ((⟨x0.bf,x0.bJ,x0.bV,v1⟩:aU):aU))
def md (a0:ah):ah:=a0
def gd (a0:ah):Prop:=ah.Sm (2^36) a0
def R:=RR gd md
def aj {a0}(h:gd a0):R (ah.r a0)=some (ah.r a0):=aO (a:=a0) h
def aW:=CN [.agg AF] (.agg f57) RT.dec R
def bw (a0)(hg:gd a0):F (ah.r a0)=ret (ah.r (md a0)):=by
 unfold md
 show (call (Z28.R (a0.bH.map cC)) fun v1=>ret ((⟨a0.bf,a0.bJ,a0.bV,v1⟩:aU):aU))=_
 rw [call_eq (Z28.aj hg.2)]
 rfl
def af:cy 183 aW:=W1 18 F mix aF bw (.cons Z28.af .nil) Tryz.func183
end Z29
namespace Z30
inductive Pt where
 | p0 (a:aC) (b:Int) (c:aC)
def pid:Pt->Nat
 | .p0 ..=>3
def cj:Pt->List V
 | .p0 a b c=>[.sl none 235 a,.own 0,.int .i64 b]
def cg:Pt->List aV
 | .p0 a b c=>[.row 57 c]
def step (J:Pt->aH):Pt->aH
 | .p0 a b c=>(cond (decide (b<(a.length:Int))) (m2 b (a.length:Int) (call (Z29.R (aU.at a (toNat b))) fun v1=>(m2 b (c.length:Int) (J (.p0 a (i64.wrap (b+1)) (List.set c (toNat b) (aU.enc v1))))))) (ret (c:aC)))
def start (J:Pt->aH)(x0:aC):aH:=(bZ (decide ((0:Int)<=(x0.length:Int))) (bZ (decide ((x0.length:Int)<=(x0.length:Int))) (bZ (decide ((x0.length:Int)*56<=140737488355328)) (J (.p0 x0 0 (List.replicate (toNat (x0.length:Int)) [L.str ⟨#[]⟩,L.int 0,L.int 0,L.sl []]))))))
def live:Nat->Live:=fun i=>match i with | 3=>[(0,none),(3,none),(4,none)] | _=>[]
def md (a0:List ah):List ah:=a0
def gd (a0:List ah):Prop:=bM (2^36) (fun y:ah=>ah.Sm (2^36) y) a0
def R:=RR gd md
def aj {a0}(h:gd a0):R (a0.map ah.row)=some (a0.map ah.row):=aO (a:=a0) h
def aW:=CN [pL 235] (oL 57) RT.dec R
def bw (a0)(hg:gd a0):∃n,start (iter step n) (a0.map ah.row)=ret ((md a0).map ah.row):=by
 unfold start md
 simp only [List.length_map]
 refine iO (b:=56) (pt:=fun i c=>Pt.p0 (a0.map ah.row) (i:Int) c) (by have:=hg.1;simp at this;omega) (fun J i h c hc=>?_) (fun J c=>?_)
 ·simp only [step,MM,List.length_map,aN h,aJ,bg,cE,ah.eD h,hc]
  rw [call_eq (Z29.aj (hg.get h))]
  try simp only [hc,aN h,bg]
  rw [aG (n:=a0.length) h (by have:=hg.1;simp only [maxLen];simp at this;omega)]
  rfl
 ·simp only [step,List.length_map,dY,bq]
def af:cy 147 aW:=L1 23 pid cj cg live step start mix aF bw (.cons Z29.af .nil) Tryz.func147
end Z30
namespace Z31
def F (x0:dJ):aH:=(call (Z23.R x0.aR) fun v1=>(call (Z30.R x0.bK) fun v2=>ret ((⟨v1,v2⟩:dJ):dJ)))
def md (a0:aK):aK:=a0
def gd (a0:aK):Prop:=aK.Sm (2^36) a0
def R:=RR gd md
def aj {a0}(h:gd a0):R (aK.r a0)=some (aK.r a0):=aO (a:=a0) h
def aW:=CN [.agg AB] (.agg f155) RT.dec R
def bw (a0)(hg:gd a0):F (aK.r a0)=ret (aK.r (md a0)):=by
 unfold md
 show (call (Z23.R (a0.aR.map aa.row)) fun v1=>(call (Z30.R (a0.bK.map ah.row)) fun v2=>ret ((⟨v1,v2⟩:dJ):dJ)))=_
 rw [call_eq (Z23.aj hg.1)]
 rw [call_eq (Z30.aj hg.2)]
 rfl
def af:cy 117 aW:=W1 13 F mix aF bw (.cons Z23.af (.cons Z30.af .nil)) Tryz.func117
end Z31
namespace Z32
inductive Pt where
 | p0 (a:aC) (b:Int) (c:aC)
def pid:Pt->Nat
 | .p0 ..=>3
def cj:Pt->List V
 | .p0 a b c=>[.sl none 183 a,.own 0,.int .i64 b]
def cg:Pt->List aV
 | .p0 a b c=>[.row 155 c]
def step (J:Pt->aH):Pt->aH
 | .p0 a b c=>(cond (decide (b<(a.length:Int))) (m2 b (a.length:Int) (call (Z31.R (dJ.at a (toNat b))) fun v1=>(m2 b (c.length:Int) (J (.p0 a (i64.wrap (b+1)) (List.set c (toNat b) (dJ.enc v1))))))) (ret (c:aC)))
def start (J:Pt->aH)(x0:aC):aH:=(bZ (decide ((0:Int)<=(x0.length:Int))) (bZ (decide ((x0.length:Int)<=(x0.length:Int))) (bZ (decide ((x0.length:Int)*48<=140737488355328)) (J (.p0 x0 0 (List.replicate (toNat (x0.length:Int)) [L.sl [],L.sl []]))))))
def live:Nat->Live:=fun i=>match i with | 3=>[(0,none),(3,none),(4,none)] | _=>[]
def md (a0:List aK):List aK:=a0
def gd (a0:List aK):Prop:=bM (2^36) (fun y:aK=>aK.Sm (2^36) y) a0
def R:=RR gd md
def aj {a0}(h:gd a0):R (a0.map aK.row)=some (a0.map aK.row):=aO (a:=a0) h
def aW:=CN [pL 183] (oL 155) RT.dec R
def bw (a0)(hg:gd a0):∃n,start (iter step n) (a0.map aK.row)=ret ((md a0).map aK.row):=by
 unfold start md
 simp only [List.length_map]
 refine iO (b:=48) (pt:=fun i c=>Pt.p0 (a0.map aK.row) (i:Int) c) (by have:=hg.1;simp at this;omega) (fun J i h c hc=>?_) (fun J c=>?_)
 ·simp only [step,MM,List.length_map,aN h,aJ,bg,cE,aK.eD h,hc]
  rw [call_eq (Z31.aj (hg.get h))]
  try simp only [hc,aN h,bg]
  rw [aG (n:=a0.length) h (by have:=hg.1;simp only [maxLen];simp at this;omega)]
  rfl
 ·simp only [step,List.length_map,dY,bq]
def af:cy 88 aW:=L1 23 pid cj cg live step start mix aF bw (.cons Z31.af .nil) Tryz.func88
end Z32
namespace Z33
def F (x0:cI):aH:=(call (Z32.R x0.bG) fun v1=>ret ((⟨v1,x0.gF⟩:cI):cI))
def md (a0:ay):ay:=a0
def gd (a0:ay):Prop:=ay.Sm (2^36) a0
def R:=RR gd md
def aj {a0}(h:gd a0):R (ay.r a0)=some (ay.r a0):=aO (a:=a0) h
def aW:=CN [.agg BC] (.agg f88) RT.dec R
def bw (a0)(hg:gd a0):F (ay.r a0)=ret (ay.r (md a0)):=by
 unfold md
 show (call (Z32.R (a0.bG.map aK.row)) fun v1=>ret ((⟨v1,a0.gF⟩:cI):cI))=_
 rw [call_eq (Z32.aj hg)]
 rfl
def af:cy 46 aW:=W1 12 F mix aF bw (.cons Z32.af .nil) Tryz.func46
end Z33
namespace Z34
inductive Pt where
 | p0 (a:aC) (b:Int) (c:aC)
def pid:Pt->Nat
 | .p0 ..=>3
def cj:Pt->List V
 | .p0 a b c=>[.sl none 78 a,.own 0,.int .i64 b]
def cg:Pt->List aV
 | .p0 a b c=>[.row 88 c]
def step (J:Pt->aH):Pt->aH
 | .p0 a b c=>(cond (decide (b<(a.length:Int))) (m2 b (a.length:Int) (call (Z33.R (cI.at a (toNat b))) fun v1=>(m2 b (c.length:Int) (J (.p0 a (i64.wrap (b+1)) (List.set c (toNat b) (cI.enc v1))))))) (ret (c:aC)))
def start (J:Pt->aH)(x0:aC):aH:=(bZ (decide ((0:Int)<=(x0.length:Int))) (bZ (decide ((x0.length:Int)<=(x0.length:Int))) (bZ (decide ((x0.length:Int)*32<=140737488355328)) (J (.p0 x0 0 (List.replicate (toNat (x0.length:Int)) [L.sl [],L.int 0]))))))
def live:Nat->Live:=fun i=>match i with | 3=>[(0,none),(3,none),(4,none)] | _=>[]
def md (a0:List ay):List ay:=a0
def gd (a0:List ay):Prop:=bM (2^36) (fun y:ay=>ay.Sm (2^36) y) a0
def R:=RR gd md
def aj {a0}(h:gd a0):R (a0.map ay.row)=some (a0.map ay.row):=aO (a:=a0) h
def aW:=CN [pL 78] (oL 88) RT.dec R
def bw (a0)(hg:gd a0):∃n,start (iter step n) (a0.map ay.row)=ret ((md a0).map ay.row):=by
 unfold start md
 simp only [List.length_map]
 refine iO (b:=32) (pt:=fun i c=>Pt.p0 (a0.map ay.row) (i:Int) c) (by have:=hg.1;simp at this;omega) (fun J i h c hc=>?_) (fun J c=>?_)
 ·simp only [step,MM,List.length_map,aN h,aJ,bg,cE,ay.eD h,hc]
  rw [call_eq (Z33.aj (hg.get h))]
  try simp only [hc,aN h,bg]
  rw [aG (n:=a0.length) h (by have:=hg.1;simp only [maxLen];simp at this;omega)]
  rfl
 ·simp only [step,List.length_map,dY,bq]
def af:cy 12 aW:=L1 23 pid cj cg live step start mix aF bw (.cons Z33.af .nil) Tryz.func12
end Z34
namespace Z35
def F (x0:bB):aH:=(bZ (eP ((x0.aX.length:Int)*8)) (ret (x0:bB)))
def md (a0:aM):aM:=a0
def gd (a0:aM):Prop:=(aM.Sm (2^21) a0)
def R:=RR gd md
def aj {a0}(h:gd a0):R (aM.r a0)=some (aM.r a0):=aO (a:=a0) h
def aW:=CN [.agg iP] (.agg f136) RT.dec R
def bw (a0)(hg:gd a0):F (aM.r a0)=ret (aM.r (md a0)):=by
 unfold gd at hg
 have H0:=hg
 unfold F md
 try simp only [SS]
 refine ak (have:=(H0).1;lm) ?_
 all_goals exact fz
def af:cy 154 aW:=W1 10 F mix aF bw .nil Tryz.func154
end Z35
namespace Z36
def F (x0:bX):aH:=(call (Z35.R x0.bO) fun v1=>(call (Z35.R x0.bA) fun v2=>(call (Z35.R x0.bt) fun v3=>ret ((⟨x0.bD,x0.cD,x0.bJ,x0.cA,x0.cu,x0.ck,x0.cQ,x0.dw,v1,v2,x0.cT,v3,x0.bC⟩:bX):bX))))
def md (a0:aE):aE:=a0
def gd (a0:aE):Prop:=(aE.Sm (2^21) a0)
def R:=RR gd md
def aj {a0}(h:gd a0):R (aE.r a0)=some (aE.r a0):=aO (a:=a0) h
def aW:=CN [.agg fU] (.agg f138) RT.dec R
def bw (a0)(hg:gd a0):F (aE.r a0)=ret (aE.r (md a0)):=by
 unfold gd at hg
 have H0:=hg
 unfold F md
 try simp only [SS]
 refine ct (Z35.aj H0.1) ?_
 try simp only [SS]
 refine ct (Z35.aj H0.2.1) ?_
 try simp only [SS]
 refine ct (Z35.aj H0.2.2) ?_
 try simp only [SS]
 all_goals exact fz
def af:cy 122 aW:=W1 18 F mix aF bw (.cons Z35.af .nil) Tryz.func122
end Z36
namespace Z37
def F (x0:aP):aH:=(call (Z36.R x0.an) fun v1=>(bZ (eP ((x0.bY.length:Int)*16)) (ret ((⟨v1,x0.bY⟩:aP):aP))))
def md (a0:aa):aa:=a0
def gd (a0:aa):Prop:=(aa.Sm (2^21) a0)
def R:=RR gd md
def aj {a0}(h:gd a0):R (aa.r a0)=some (aa.r a0):=aO (a:=a0) h
def aW:=CN [.agg kD] (.agg f141) RT.dec R
def bw (a0)(hg:gd a0):F (aa.r a0)=ret (aa.r (md a0)):=by
 unfold gd at hg
 have H0:=hg
 unfold F md
 try simp only [SS]
 refine ct (Z36.aj H0.1) ?_
 try simp only [SS]
 refine ak (have:=(H0.2).1;lm) ?_
 all_goals exact fz
def af:cy 115 aW:=W1 11 F mix aF bw (.cons Z36.af .nil) Tryz.func115
end Z37
namespace Z38
inductive Pt where
 | p0 (a:aC) (b:Int) (c:aC)
def pid:Pt->Nat
 | .p0 ..=>3
def cj:Pt->List V
 | .p0 a b c=>[.sl none 141 a,.own 0,.int .i64 b]
def cg:Pt->List aV
 | .p0 a b c=>[.row 141 c]
def step (J:Pt->aH):Pt->aH
 | .p0 a b c=>(cond (decide (b<(a.length:Int))) (m2 b (a.length:Int) (call (Z37.R (aP.at a (toNat b))) fun v1=>(bZ (eP (((c.length:Int)+1)*200)) (J (.p0 a (i64.wrap (b+1)) (c++[(aP.enc v1)])))))) (ret (c:aC)))
def start (J:Pt->aH)(x0:aC):aH:=J (.p0 x0 0 [])
def live:Nat->Live:=fun i=>match i with | 3=>[(0,none),(3,some 141),(4,none)] | _=>[]
def md (a0:List aa):List aa:=a0
def gd (a0:List aa):Prop:=(bM (2^21) (fun y:aa=>aa.Sm (2^21) y) a0)
def R:=RR gd md
def aj {a0}(h:gd a0):R (a0.map aa.row)=some (a0.map aa.row):=aO (a:=a0) h
def aW:=CN [pL 141] (oL 141) RT.dec R
def bw (a0)(hg:gd a0):∃n,start (iter step n) (a0.map aa.row)=ret ((md a0).map aa.row):=by
 unfold gd at hg
 have H0:=hg
 unfold start md
 try simp only [SS]
 have Bh2:a0.length<=maxLen:=(by
   have:=(H0).1
   try simp only [maxLen] at *
   omega)
 refine ex_eq (out:=(fun b:List aa=>ret ((b.map aa.row):aC))) (hO (xs:=a0) (z:=aa.zero) (t:=fun s3:List aa=>s3)) ?_
 refine dM (p:=Pt.p0 (a0.map aa.row) 0 ([].map aa.row)) fz ?_
 refine cm (pt:=fun (i1:Nat) (s3:List aa)=>Pt.p0 (a0.map aa.row) (i1:Int) (s3.map aa.row)) (s:=([]:List aa)) (out:=(fun b:List aa=>ret ((b.map aa.row):aC))) (fun (i1:Nat) (s3:List aa)=>s3.length<=([]:List Int).length+1*i1) (fun J i1 s3 h2 hih2=>?_) (fun s3 hih2=>?_) (by simp)
 ·simp only [step,SS]
  have gr_:=hih2
  try simp only [LN] at gr_
  have bb_:=Bh2
  simp only [maxLen] at bb_
  have:=(H0).1
  refine bz.yes (by apply decide_eq_true;omega) ?_
  refine bz.yes aJ ?_
  refine bz.yes (aN h2) ?_
  refine cr (Z37.aj (bM.getD (z:=aa.zero) H0 h2)) ?_
  try simp only [SS]
  refine bz.yes lm ?_
  refine bz.inl (by
    have g_:=hih2
    try simp only [LN] at g_ ⊢
    first | omega | (simp;done) | (simp;omega)) ?_
  rw [aG h2 Bh2]
  all_goals exact fz
 ·simp only [step,SS]
  have gr_:=hih2
  try simp only [LN] at gr_
  have:=(H0).1
  refine dx (by apply decide_eq_false;omega) ?_
  refine ⟨0,?_⟩
  all_goals exact fz
def af:cy 84 aW:=L1 21 pid cj cg live step start mix aF bw (.cons Z37.af .nil) Tryz.func84
end Z38
namespace Z39
def F (x0:bF):aH:=(call (Z37.R x0.aQ) fun v1=>(call (Z37.R x0.fA) fun v2=>(call (Z37.R x0.fB) fun v3=>ret ((⟨v1,v2,v3⟩:bF):bF))))
def md (a0:az):az:=a0
def gd (a0:az):Prop:=(az.Sm (2^21) a0)
def R:=RR gd md
def aj {a0}(h:gd a0):R (az.r a0)=some (az.r a0):=aO (a:=a0) h
def aW:=CN [.agg sS] (.agg f143) RT.dec R
def bw (a0)(hg:gd a0):F (az.r a0)=ret (az.r (md a0)):=by
 unfold gd at hg
 have H0:=hg
 unfold F md
 try simp only [SS]
 refine ct (Z37.aj H0.1) ?_
 try simp only [SS]
 refine ct (Z37.aj H0.2.1) ?_
 try simp only [SS]
 refine ct (Z37.aj H0.2.2) ?_
 try simp only [SS]
 all_goals exact fz
def af:cy 85 aW:=W1 13 F mix aF bw (.cons Z37.af .nil) Tryz.func85
end Z39
namespace Z40
inductive Pt where
 | p0 (a:Int) (b:bu) (c:aC)
 | p1 (a:Int) (b:bu) (c d:aC)
def pid:Pt->Nat
 | .p0 ..=>3
 | .p1 ..=>7
def cj:Pt->List V
 | .p0 a b c=>[.cK 0 0,.cK 1 0,.cK 2 0,.int .i64 a,.cK 2 0]
 | .p1 a b c d=>[.cK 0 0,.cK 1 0,.cK 2 0,.int .i64 a,.cK 2 0,.cK 2 0]
def cg:Pt->List aV
 | .p0 a b c=>[.box [.sl none 134 b.aI,.sl none 143 b.bn],.box [.nil,.nil],.box [.own 3,.nil],.row 134 c]
 | .p1 a b c d=>[.box [.sl none 134 b.aI,.sl none 143 b.bn],.box [.nil,.nil],.box [.own 3,.own 4],.row 134 c,.row 143 d]
def step (J:Pt->aH):Pt->aH
 | .p0 a b c=>(cond (decide (a<(b.aI.length:Int))) (m2 a (b.aI.length:Int) (call (Z38.R (oy b.aI (toNat a))) fun v1=>(bZ (eP (((c.length:Int)+1)*24)) (J (.p0 (i64.wrap (a+1)) b (c++[[L.sl v1]])))))) (J (.p1 0 b c [])))
 | .p1 a b c d=>(cond (decide (a<(b.bn.length:Int))) (m2 a (b.bn.length:Int) (call (Z39.R (bF.at b.bn (toNat a))) fun v1=>(bZ (eP (((d.length:Int)+1)*600)) (J (.p1 (i64.wrap (a+1)) b c (d++[(bF.enc v1)])))))) (ret ((⟨c,d⟩:bu):bu)))
def start (J:Pt->aH)(x0:bu):aH:=J (.p0 0 x0 [])
def live:Nat->Live:=fun i=>match i with | 3=>[(1,none),(2,none),(3,none),(4,none),(3,some 134)] | 7=>[(1,none),(2,none),(3,none),(5,none),(3,some 134),(3,some 1048719)] | _=>[]
def md (a0:aq):aq:=a0
def gd (a0:aq):Prop:=(aq.Sm (2^21) a0)
def R:=RR gd md
def aj {a0}(h:gd a0):R (aq.r a0)=some (aq.r a0):=aO (a:=a0) h
def aW:=CN [.agg tE] (.agg f37) RT.dec R
def bw (a0)(hg:gd a0):∃n,start (iter step n) (aq.r a0)=ret (aq.r (md a0)):=by
 unfold gd at hg
 have H0:=hg
 unfold start md
 try simp only [SS]
 have Bh2:a0.aI.length<=maxLen:=(by
   have:=(H0.1).1
   try simp only [maxLen] at *
   omega)
 refine ex_eq (out:=(fun b:aq=>ret ((aq.r b):bu))) (hO (xs:=a0.aI) (z:=[]) (t:=fun s3:List (List aa)=>(⟨s3,a0.bn⟩:aq))) ?_
 refine dM (p:=Pt.p0 0 (aq.r a0) ([].map (dF aa.row))) fz ?_
 refine cm (pt:=fun (i1:Nat) (s3:List (List aa))=>Pt.p0 (i1:Int) (aq.r a0) (s3.map (dF aa.row))) (s:=([]:List (List aa))) (out:=(fun b:aq=>ret ((aq.r b):bu))) (fun (i1:Nat) (s3:List (List aa))=>s3.length<=([]:List Int).length+1*i1) (fun J i1 s3 h2 hih2=>?_) (fun s3 hih2=>?_) (by simp)
 ·simp only [step,SS]
  have gr_:=hih2
  try simp only [LN] at gr_
  have bb_:=Bh2
  simp only [maxLen] at bb_
  have:=(H0.1).1
  refine bz.yes (by apply decide_eq_true;omega) ?_
  refine bz.yes aJ ?_
  refine bz.yes (aN h2) ?_
  refine cr (Z38.aj (bM.getD (z:=[]) H0.1 h2)) ?_
  try simp only [SS]
  refine bz.yes lm ?_
  refine bz.inl (by
    have g_:=hih2
    try simp only [LN] at g_ ⊢
    first | omega | (simp;done) | (simp;omega)) ?_
  rw [aG h2 Bh2]
  all_goals exact fz
 ·simp only [step,SS]
  have gr_:=hih2
  try simp only [LN] at gr_
  have:=(H0.1).1
  refine dx (by apply decide_eq_false;omega) ?_
  have Bh5:a0.bn.length<=maxLen:=(by
    have:=(H0.2).1
    try simp only [maxLen] at *
    omega)
  refine ex_eq (out:=(fun b:aq=>ret ((aq.r b):bu))) (hO (xs:=a0.bn) (z:=az.zero) (t:=fun s6:List az=>(⟨s3,s6⟩:aq))) ?_
  refine dM (p:=Pt.p1 0 (aq.r a0) (s3.map (dF aa.row)) ([].map az.row)) fz ?_
  refine cm (pt:=fun (i4:Nat) (s6:List az)=>Pt.p1 (i4:Int) (aq.r a0) (s3.map (dF aa.row)) (s6.map az.row)) (s:=([]:List az)) (out:=(fun b:aq=>ret ((aq.r b):bu))) (fun (i4:Nat) (s6:List az)=>s6.length<=([]:List Int).length+1*i4) (fun J i4 s6 h5 hih5=>?_) (fun s6 hih5=>?_) (by simp)
  ·simp only [step,SS]
   have gr_:=hih5
   try simp only [LN] at gr_
   have bb_:=Bh5
   simp only [maxLen] at bb_
   have:=(H0.2).1
   refine bz.yes (by apply decide_eq_true;omega) ?_
   refine bz.yes aJ ?_
   refine bz.yes (aN h5) ?_
   refine cr (Z39.aj (bM.getD (z:=az.zero) H0.2 h5)) ?_
   try simp only [SS]
   refine bz.yes lm ?_
   refine bz.inl (by
     have g_:=hih5
     try simp only [LN] at g_ ⊢
     first | omega | (simp;done) | (simp;omega)) ?_
   rw [aG h5 Bh5]
   all_goals exact fz
  ·simp only [step,SS]
   have gr_:=hih5
   try simp only [LN] at gr_
   have:=(H0.2).1
   refine dx (by apply decide_eq_false;omega) ?_
   refine ⟨0,?_⟩
   all_goals exact fz
def af:cy 43 aW:=L1 44 pid cj cg live step start mix aF bw (.cons Z38.af (.cons Z39.af .nil)) Tryz.func43
end Z40
namespace Z41
def F (x0 x1 x2:Int):aH:=(cond (decide (x0>=x1)) (ret ((decide (x0<=x2)):Bool)) bh)
def md (a0 a1 a2:Int):Bool:=(cond (decide (a0>=a1)) ((decide (a0<=a2)):Bool) (false:Bool))
def gd (a0 a1 a2:Int):Prop:=True
def R:=RR (p3 gd) (u3 md)
def aj {a0 a1 a2}(h:gd a0 a1 a2):R (a0,a1,a2)=some (md a0 a1 a2):=aO (a:=(a0,a1,a2)) h
def aW:=CN [pI,pI,pI] oB RT.dec R
def bw (a0)(a1)(a2)(hg:gd a0 a1 a2):F a0 a1 a2=ret (md a0 a1 a2):=by
 unfold F md
 try simp only [SS]
 refine au ret (fun c1=>?_) (fun _=>rfl)
 all_goals exact fz
def af:cy 100 aW:=W3 15 F mix aF bw .nil Tryz.func100
end Z41
namespace Z42
inductive Pt where
 | p0 (a:aD) (b:Int)
def pid:Pt->Nat
 | .p0 ..=>4
def cj:Pt->List V
 | .p0 a b=>[.str a,.int .i64 b]
def cg:Pt->List aV
 | .p0 a b=>[]
def step (J:Pt->aH):Pt->aH
 | .p0 a b=>(cond (decide (b<(a.size:Int))) (m2 b (a.size:Int) (cond (decide ((dW a (toNat b))<97)) (m2 b (a.size:Int) (cond (decide ((dW a (toNat b))<48)) (m2 b (a.size:Int) (cond ((dW a (toNat b)) != 45) bh (J (.p0 a (i64.wrap (b+1)))))) (m2 b (a.size:Int) (cond (decide ((dW a (toNat b))>57)) (m2 b (a.size:Int) (cond ((dW a (toNat b)) != 45) bh (J (.p0 a (i64.wrap (b+1)))))) (J (.p0 a (i64.wrap (b+1)))))))) (m2 b (a.size:Int) (cond (decide ((dW a (toNat b))>122)) (m2 b (a.size:Int) (cond (decide ((dW a (toNat b))<48)) (m2 b (a.size:Int) (cond ((dW a (toNat b)) != 45) bh (J (.p0 a (i64.wrap (b+1)))))) (m2 b (a.size:Int) (cond (decide ((dW a (toNat b))>57)) (m2 b (a.size:Int) (cond ((dW a (toNat b)) != 45) bh (J (.p0 a (i64.wrap (b+1)))))) (J (.p0 a (i64.wrap (b+1)))))))) (J (.p0 a (i64.wrap (b+1)))))))) eI)
def start (J:Pt->aH)(x0:aD):aH:=(call (Z41.R ((x0.size:Int),1,8)) fun v1=>(cond (!v1) bh (bZ (decide ((0:Int)<(x0.size:Int))) (cond ((dW x0 0)==45) bh (bZ (decide ((0:Int)<=(i64.wrap ((x0.size:Int) - 1)))) (bZ (decide ((i64.wrap ((x0.size:Int) - 1))<(x0.size:Int))) (cond ((dW x0 (toNat (i64.wrap ((x0.size:Int) - 1))))==45) bh (J (.p0 x0 0)))))))))
def live:Nat->Live:=fun i=>match i with | 4=>[(0,none),(3,none)] | _=>[]
def md (a0:aD):Bool:=(bif (!(Z41.md (a0.size:Int) 1 8)) then (false:Bool) else (bif ((dW a0 0)==45) then (false:Bool) else (bif ((dW a0 (toNat (i64.wrap ((a0.size:Int) - 1))))==45) then (false:Bool) else (ec (S:=Unit) (β:=Bool) (fun (i4:Nat) (s6:Unit)=>(cond (decide ((dW a0 i4)<97)) (cond (decide ((dW a0 i4)<48)) (cond ((dW a0 i4) != 45) (.inr (false:Bool)) (.inl ())) (cond (decide ((dW a0 i4)>57)) (cond ((dW a0 i4) != 45) (.inr (false:Bool)) (.inl ())) (.inl ()))) (cond (decide ((dW a0 i4)>122)) (cond (decide ((dW a0 i4)<48)) (cond ((dW a0 i4) != 45) (.inr (false:Bool)) (.inl ())) (cond (decide ((dW a0 i4)>57)) (cond ((dW a0 i4) != 45) (.inr (false:Bool)) (.inl ())) (.inl ()))) (.inl ())))) (fun (s6:Unit)=>(true:Bool)) a0.size 0 ()))))
def gd (a0:aD):Prop:=(a0.size<=(2^22))
def R:=RR gd md
def aj {a0}(h:gd a0):R a0=some (md a0):=aO (a:=a0) h
def aW:=CN [pS] oB RT.dec R
def bw (a0)(hg:gd a0):∃n,start (iter step n) a0=ret (md a0):=by
 unfold gd at hg
 have H0:=hg
 unfold start md
 try simp only [SS]
 refine cx (Z41.aj trivial) ?_
 refine gP ret (fun _=>⟨0,rfl⟩) (fun c1=>?_)
 have dc1:=c1
 try simp only [DC] at dc1
 have Dc1:=c1
 try simp [Z41.md] at Dc1
 refine dH (have:=H0;dt) ?_
 refine gP ret (fun _=>⟨0,rfl⟩) (fun c2=>?_)
 have dc2:=c2
 try simp only [DC] at dc2
 refine dH (have:=H0;dt) ?_
 refine dH (have:=H0;dt) ?_
 refine gP ret (fun _=>⟨0,rfl⟩) (fun c3=>?_)
 have dc3:=c3
 try simp only [DC] at dc3
 have Bh5:a0.size<=maxLen:=(by
   have:=H0
   try simp only [maxLen] at *
   omega)
 refine dM (p:=Pt.p0 a0 0) fz ?_
 refine cm (pt:=fun (i4:Nat) (s6:Unit)=>Pt.p0 a0 (i4:Int)) (s:=(():Unit)) (out:=ret) (fun _ _=>True) (fun J i4 s6 h5 hih5=>?_) (fun s6 hih5=>?_) trivial
 ·simp only [step,SS]
  have bb_:=Bh5
  simp only [maxLen] at bb_
  have:=H0
  refine bz.yes (by apply decide_eq_true;omega) ?_
  refine bz.yes aJ ?_
  refine bz.yes (aN h5) ?_
  refine bz.bif (fun c7=>?_) (fun c7=>?_)
  ·refine bz.yes aJ ?_
   refine bz.yes (aN h5) ?_
   refine bz.bif (fun c8=>?_) (fun c8=>?_)
   ·refine bz.yes aJ ?_
    refine bz.yes (aN h5) ?_
    refine bz.bif (fun _=>bz.inr rfl) (fun c9=>?_)
    refine bz.inl trivial ?_
    rw [aG h5 Bh5]
    all_goals exact fz
   ·refine bz.yes aJ ?_
    refine bz.yes (aN h5) ?_
    refine bz.bif (fun c10=>?_) (fun c10=>?_)
    ·refine bz.yes aJ ?_
     refine bz.yes (aN h5) ?_
     refine bz.bif (fun _=>bz.inr rfl) (fun c11=>?_)
     refine bz.inl trivial ?_
     rw [aG h5 Bh5]
     all_goals exact fz
    ·refine bz.inl trivial ?_
     rw [aG h5 Bh5]
     all_goals exact fz
  ·refine bz.yes aJ ?_
   refine bz.yes (aN h5) ?_
   refine bz.bif (fun c12=>?_) (fun c12=>?_)
   ·refine bz.yes aJ ?_
    refine bz.yes (aN h5) ?_
    refine bz.bif (fun c13=>?_) (fun c13=>?_)
    ·refine bz.yes aJ ?_
     refine bz.yes (aN h5) ?_
     refine bz.bif (fun _=>bz.inr rfl) (fun c14=>?_)
     refine bz.inl trivial ?_
     rw [aG h5 Bh5]
     all_goals exact fz
    ·refine bz.yes aJ ?_
     refine bz.yes (aN h5) ?_
     refine bz.bif (fun c15=>?_) (fun c15=>?_)
     ·refine bz.yes aJ ?_
      refine bz.yes (aN h5) ?_
      refine bz.bif (fun _=>bz.inr rfl) (fun c16=>?_)
      refine bz.inl trivial ?_
      rw [aG h5 Bh5]
      all_goals exact fz
     ·refine bz.inl trivial ?_
      rw [aG h5 Bh5]
      all_goals exact fz
   ·refine bz.inl trivial ?_
    rw [aG h5 Bh5]
    all_goals exact fz
 ·simp only [step,SS]
  have:=H0
  refine dx (by apply decide_eq_false;omega) ?_
  refine ⟨0,?_⟩
  all_goals exact fz
def af:cy 99 aW:=L1 55 pid cj cg live step start mix aF bw (.cons Z41.af .nil) Tryz.func99
def tr {a0:aD}(h:md a0=true):1<=a0.size/\a0.size<=8:=by
 unfold md at h
 cases e:Z41.md (a0.size:Int) 1 8
 ·rw [e] at h;cases h
 ·simp [Z41.md] at e;omega
end Z42
namespace Z43
inductive Pt where
 | p0 (a:aC) (b:Int)
def pid:Pt->Nat
 | .p0 ..=>2
def cj:Pt->List V
 | .p0 a b=>[.sl none 9 a,.int .i64 b]
def cg:Pt->List aV
 | .p0 a b=>[]
def step (J:Pt->aH):Pt->aH
 | .p0 a b=>(cond (decide (b<(a.length:Int))) (m2 b (a.length:Int) (call (Z42.R (pR a (toNat b))) fun v1=>(cond (!v1) bh (J (.p0 a (i64.wrap (b+1))))))) (call (Z41.R ((a.length:Int),1,4)) fun v2=>ret (v2:Bool)))
def start (J:Pt->aH)(x0:aC):aH:=J (.p0 x0 0)
def live:Nat->Live:=fun i=>match i with | 2=>[(0,none),(3,none)] | _=>[]
def md (a0:List aD):Bool:=(dS (S:=Unit) (β:=Bool) (fun (y1:aD) (s3:Unit)=>(cond (!(Z42.md y1)) (.inr (false:Bool)) (.inl ()))) (fun (s3:Unit)=>((Z41.md (a0.length:Int) 1 4):Bool)) a0 ())
def gd (a0:List aD):Prop:=(bM (2^22) (fun y:aD=>y.size<=(2^22)) a0)
def R:=RR gd md
def aj {a0}(h:gd a0):R (a0.map cC)=some (md a0):=aO (a:=a0) h
def aW:=CN [pL 9] oB RT.dec R
def bw (a0)(hg:gd a0):∃n,start (iter step n) (a0.map cC)=ret (md a0):=by
 unfold gd at hg
 have H0:=hg
 unfold start md
 try simp only [SS]
 have Bh2:a0.length<=maxLen:=(by
   have:=(H0).1
   try simp only [maxLen] at *
   omega)
 refine ex_eq (out:=ret) (eC (z:=⟨#[]⟩)) ?_
 refine dM (p:=Pt.p0 (a0.map cC) 0) fz ?_
 refine cm (pt:=fun (i1:Nat) (s3:Unit)=>Pt.p0 (a0.map cC) (i1:Int)) (s:=(():Unit)) (out:=ret) (fun _ _=>True) (fun J i1 s3 h2 hih2=>?_) (fun s3 hih2=>?_) trivial
 ·simp only [step,SS]
  have bb_:=Bh2
  simp only [maxLen] at bb_
  have:=(H0).1
  refine bz.yes (by apply decide_eq_true;omega) ?_
  refine bz.yes aJ ?_
  refine bz.yes (aN h2) ?_
  refine cr (Z42.aj (bM.getD (z:=⟨#[]⟩) H0 h2)) ?_
  refine bz.bif (fun _=>bz.inr rfl) (fun c4=>?_)
  refine bz.inl trivial ?_
  rw [aG h2 Bh2]
  all_goals exact fz
 ·simp only [step,SS]
  have:=(H0).1
  refine dx (by apply decide_eq_false;omega) ?_
  refine cx (Z41.aj trivial) ?_
  refine ⟨0,?_⟩
  all_goals exact fz
def af:cy 62 aW:=L1 19 pid cj cg live step start mix aF bw (.cons Z42.af (.cons Z41.af .nil)) Tryz.func62
def tr {a0:List aD}(h:md a0=true):(1<=a0.length/\a0.length<=4)/\∀x∈a0,x.size<=8:=by
 have e:=lN (p:=fun y=>!(Z42.md y)) (b:=false) (c:=Z41.md (a0.length:Int) 1 4) (xs:=a0) (s:=())
 rw [show md a0=_ from e] at h
 cases ha:a0.any (fun y=>!(Z42.md y))<;>rw [ha] at h
 ·have h2:Z41.md (a0.length:Int) 1 4=true:=h
  simp [Z41.md] at h2
  refine ⟨by omega,fun x hx=>?_⟩
  rw [List.any_eq_false] at ha
  have:=ha x hx
  exact (Z42.tr (by simpa using this)).2
 ·cases h
def tl {x:aD}{xs:List aD}(h:md (x::xs)=true)(hx:¬xs.length=0):md xs=true:=by
 have key:∀a:List aD,md a=bif a.any (fun y=>!(Z42.md y)) then false else Z41.md (a.length:Int) 1 4:=fun a=>lN (p:=fun y=>!(Z42.md y)) (b:=false) (c:=Z41.md (a.length:Int) 1 4) (xs:=a) (s:=())
 have t:=tr h
 simp only [List.length_cons] at t
 rw [key] at h ⊢
 rw [List.any_cons] at h
 cases h1:xs.any (fun y=>!(Z42.md y)) with
 | true=>rw [h1,Bool.or_true] at h;cases h
 | false=>simp [Z41.md];omega
end Z43
namespace Z44
def F (x0:aC):aH:=(bZ (eP ((x0.length:Int)*16)) (ret (x0:aC)))
def md (a0:List aD):List aD:=a0
def gd (a0:List aD):Prop:=(bM (2^21) (fun y:aD=>y.size<=(2^21)) a0)
def R:=RR gd md
def aj {a0}(h:gd a0):R (a0.map cC)=some (a0.map cC):=aO (a:=a0) h
def aW:=CN [pL 9] (oL 9) RT.dec R
def bw (a0)(hg:gd a0):F (a0.map cC)=ret ((md a0).map cC):=by
 unfold gd at hg
 have H0:=hg
 unfold F md
 try simp only [SS]
 refine ak (have:=(H0).1;lm) ?_
 all_goals exact fz
def af:cy 63 aW:=W1 6 F mix aF bw .nil Tryz.func63
end Z44
namespace Z45
inductive Pt where
 | p0 (a:Int) (b:bB)
def pid:Pt->Nat
 | .p0 ..=>2
def cj:Pt->List V
 | .p0 a b=>[.cK 0 0,.int .i64 a]
def cg:Pt->List aV
 | .p0 a b=>[.box [.sl none 3 b.aX,.int .i64 b.cz]]
def step (J:Pt->aH):Pt->aH
 | .p0 a b=>(cond (decide (a<(b.aX.length:Int))) (m2 a (b.aX.length:Int) (call (Z41.R ((jh b.aX (toNat a)),1,99)) fun v1=>(cond (!v1) bh (cond (decide (a>0)) (bZ (decide ((0:Int)<=(i64.wrap (a - 1)))) (bZ (decide ((i64.wrap (a - 1))<(b.aX.length:Int))) (m2 a (b.aX.length:Int) (cond (decide ((jh b.aX (toNat (i64.wrap (a - 1))))>=(jh b.aX (toNat a)))) bh (J (.p0 (i64.wrap (a+1)) b)))))) (J (.p0 (i64.wrap (a+1)) b)))))) (call (Z41.R ((b.aX.length:Int),1,4)) fun v2=>(cond v2 (call (Z41.R (b.cz,1,(b.aX.length:Int))) fun v3=>ret (v3:Bool)) bh)))
def start (J:Pt->aH)(x0:bB):aH:=J (.p0 0 x0)
def live:Nat->Live:=fun i=>match i with | 2=>[(1,none),(3,none)] | _=>[]
def md (a0:aM):Bool:=(dR (S:=Unit) (β:=Bool) (fun (i1:Nat) (y1:Int) (s3:Unit)=>(cond (!(Z41.md y1 1 99)) (.inr (false:Bool)) (cond (decide ((i1:Int)>0)) (cond (decide ((a0.aX.getD (toNat (i64.wrap ((i1:Int) - 1))) 0)>=y1)) (.inr (false:Bool)) (.inl ())) (.inl ())))) (fun (s3:Unit)=>(cond (Z41.md (a0.aX.length:Int) 1 4) ((Z41.md a0.cz 1 (a0.aX.length:Int)):Bool) (false:Bool))) 0 a0.aX ())
def gd (a0:aM):Prop:=(aM.Sm (2^21) a0)
def R:=RR gd md
def aj {a0}(h:gd a0):R (aM.r a0)=some (md a0):=aO (a:=a0) h
def aW:=CN [.agg iP] oB RT.dec R
def bw (a0)(hg:gd a0):∃n,start (iter step n) (aM.r a0)=ret (md a0):=by
 unfold gd at hg
 have H0:=hg
 unfold start md
 try simp only [SS]
 have Bh2:a0.aX.length<=maxLen:=(by
   have:=(H0).1
   try simp only [maxLen] at *
   omega)
 refine ex_eq (out:=ret) (cU (z:=0)) ?_
 refine dM (p:=Pt.p0 0 (aM.r a0)) fz ?_
 refine cm (pt:=fun (i1:Nat) (s3:Unit)=>Pt.p0 (i1:Int) (aM.r a0)) (s:=(():Unit)) (out:=ret) (fun _ _=>True) (fun J i1 s3 h2 hih2=>?_) (fun s3 hih2=>?_) trivial
 ·simp only [step,SS]
  have bb_:=Bh2
  simp only [maxLen] at bb_
  have:=(H0).1
  refine bz.yes (by apply decide_eq_true;omega) ?_
  refine bz.yes aJ ?_
  refine bz.yes (aN h2) ?_
  refine cr (Z41.aj trivial) ?_
  refine bz.bif (fun _=>bz.inr rfl) (fun c4=>?_)
  have dc4:=c4
  try simp only [DC] at dc4
  have Dc4:=c4
  try simp [Z41.md] at Dc4
  refine bz.bif (fun c5=>?_) (fun c5=>?_)
  ·have dc5:=c5
   try simp only [DC] at dc5
   refine bz.yes dt ?_
   refine bz.yes (have:=(H0).1;dt) ?_
   refine bz.yes aJ ?_
   refine bz.yes (aN h2) ?_
   refine bz.bif (fun _=>bz.inr rfl) (fun c6=>?_)
   refine bz.inl trivial ?_
   rw [aG h2 Bh2]
   all_goals exact fz
  ·refine bz.inl trivial ?_
   rw [aG h2 Bh2]
   all_goals exact fz
 ·simp only [step,SS]
  have:=(H0).1
  refine dx (by apply decide_eq_false;omega) ?_
  refine cx (Z41.aj trivial) ?_
  refine gP ret (fun c7=>?_) (fun _=>⟨0,rfl⟩)
  refine cx (Z41.aj trivial) ?_
  refine ⟨0,?_⟩
  all_goals exact fz
def af:cy 255 aW:=L1 48 pid cj cg live step start mix aF bw (.cons Z41.af .nil) Tryz.func255
def tr {a0:aM}(h:md a0=true):1<=a0.aX.length/\a0.aX.length<=4:=by
 refine Classical.byContradiction fun hc=>?_
 have e1:Z41.md (a0.aX.length:Int) 1 4=false:=by simp [Z41.md];omega
 unfold md at h
 rw [e1] at h
 have e2:∀s:Unit,(cond false (Z41.md a0.cz 1 (a0.aX.length:Int)) false)=false:=fun _=>rfl
 have h3:=lp (c:=false) (f:=fun (i1:Nat) (y1:Int) (s3:Unit)=>(cond (!(Z41.md y1 1 99)) (.inr (false:Bool)) (cond (decide ((i1:Int)>0)) (cond (decide ((a0.aX.getD (toNat (i64.wrap ((i1:Int) - 1))) 0)>=y1)) (.inr (false:Bool)) (.inl ())) (.inl ())))) (by
  intro i x s b h
  revert h
  simp only [Bool.cond_eq_ite]
  repeat' split
  all_goals (intro h;first | (cases h;rfl) | cases h)) a0.aX 0 ()
 simp only [bq] at h
 rw [h3] at h
 cases h
end Z45
namespace Z46
def F (x0:bB):aH:=(cond (x0.cz==0) (ret (((x0.aX.length:Int)==0):Bool)) bh)
def md (a0:aM):Bool:=(cond (a0.cz==0) (((a0.aX.length:Int)==0):Bool) (false:Bool))
def gd (a0:aM):Prop:=True
def R:=RR gd md
def aj {a0}(h:gd a0):R (aM.r a0)=some (md a0):=aO (a:=a0) h
def aW:=CN [.agg iP] oB RT.dec R
def bw (a0)(hg:gd a0):F (aM.r a0)=ret (md a0):=by
 unfold F md
 try simp only [SS]
 refine au ret (fun c1=>?_) (fun _=>rfl)
 all_goals exact fz
def af:cy 256 aW:=W1 12 F mix aF bw .nil Tryz.func256
end Z46
namespace Z47
def F (x0:bX):aH:=(call (Z41.R (x0.bD,0,2147483646)) fun v1=>(cond (!v1) bh (call (Z41.R (x0.cQ,0,2147483646)) fun v2=>(cond (!v2) bh (call (Z41.R (x0.dw,0,2147483646)) fun v3=>(cond (!v3) bh (call (Z41.R (x0.cD,0,200)) fun v4=>(cond (!v4) bh (call (Z41.R (x0.bJ,1,3)) fun v5=>(cond (!v5) bh (call (Z41.R (x0.cA,0,100000)) fun v6=>(cond (!v6) bh (call (Z41.R (x0.cu,x0.cA,100000)) fun v7=>(cond (!v7) bh (cond (decide ((i64.wrap (x0.cu - x0.cA))>200)) bh (call (Z41.R (x0.ck,0,12)) fun v8=>(cond (!v8) bh (call (Z45.R x0.bO) fun v9=>(cond (!v9) bh (call (Z46.R x0.bA) fun v10=>(cond v10 (cond (x0.cT != 0) bh (call (Z45.R x0.bt) fun v11=>(cond v11 eI (call (Z46.R x0.bt) fun v12=>(cond v12 (ret ((!x0.bC):Bool)) bh))))) (call (Z45.R x0.bA) fun v13=>(cond (!v13) bh (call (Z41.R (x0.cT,1,500)) fun v14=>(cond (!v14) bh (call (Z45.R x0.bt) fun v15=>(cond v15 eI (call (Z46.R x0.bt) fun v16=>(cond v16 (ret ((!x0.bC):Bool)) bh)))))))))))))))))))))))))))))
def md (a0:aE):Bool:=(cond (!(Z41.md a0.bD 0 2147483646)) (false:Bool) (cond (!(Z41.md a0.cQ 0 2147483646)) (false:Bool) (cond (!(Z41.md a0.dw 0 2147483646)) (false:Bool) (cond (!(Z41.md a0.cD 0 200)) (false:Bool) (cond (!(Z41.md a0.bJ 1 3)) (false:Bool) (cond (!(Z41.md a0.cA 0 100000)) (false:Bool) (cond (!(Z41.md a0.cu a0.cA 100000)) (false:Bool) (cond (decide ((i64.wrap (a0.cu - a0.cA))>200)) (false:Bool) (cond (!(Z41.md a0.ck 0 12)) (false:Bool) (cond (!(Z45.md a0.bO)) (false:Bool) (cond (Z46.md a0.bA) (cond (a0.cT != 0) (false:Bool) (cond (Z45.md a0.bt) (true:Bool) (cond (Z46.md a0.bt) ((!a0.bC):Bool) (false:Bool)))) (cond (!(Z45.md a0.bA)) (false:Bool) (cond (!(Z41.md a0.cT 1 500)) (false:Bool) (cond (Z45.md a0.bt) (true:Bool) (cond (Z46.md a0.bt) ((!a0.bC):Bool) (false:Bool))))))))))))))))
def gd (a0:aE):Prop:=(aE.Sm (2^21) a0)
def R:=RR gd md
def aj {a0}(h:gd a0):R (aE.r a0)=some (md a0):=aO (a:=a0) h
def aW:=CN [.agg fU] oB RT.dec R
def bw (a0)(hg:gd a0):F (aE.r a0)=ret (md a0):=by
 unfold gd at hg
 have H0:=hg
 unfold F md
 try simp only [SS]
 refine ct (Z41.aj trivial) ?_
 refine au ret (fun _=>rfl) (fun c1=>?_)
 refine ct (Z41.aj trivial) ?_
 refine au ret (fun _=>rfl) (fun c2=>?_)
 refine ct (Z41.aj trivial) ?_
 refine au ret (fun _=>rfl) (fun c3=>?_)
 refine ct (Z41.aj trivial) ?_
 refine au ret (fun _=>rfl) (fun c4=>?_)
 refine ct (Z41.aj trivial) ?_
 refine au ret (fun _=>rfl) (fun c5=>?_)
 refine ct (Z41.aj trivial) ?_
 refine au ret (fun _=>rfl) (fun c6=>?_)
 refine ct (Z41.aj trivial) ?_
 refine au ret (fun _=>rfl) (fun c7=>?_)
 refine au ret (fun _=>rfl) (fun c8=>?_)
 refine ct (Z41.aj trivial) ?_
 refine au ret (fun _=>rfl) (fun c9=>?_)
 refine ct (Z45.aj H0.1) ?_
 refine au ret (fun _=>rfl) (fun c10=>?_)
 refine ct (Z46.aj trivial) ?_
 refine au ret (fun c11=>?_) (fun c11=>?_)
 ·refine au ret (fun _=>rfl) (fun c12=>?_)
  refine ct (Z45.aj H0.2.2) ?_
  refine au ret (fun _=>rfl) (fun c13=>?_)
  refine ct (Z46.aj trivial) ?_
  refine au ret (fun c14=>?_) (fun _=>rfl)
  all_goals exact fz
 ·refine ct (Z45.aj H0.2.1) ?_
  refine au ret (fun _=>rfl) (fun c15=>?_)
  refine ct (Z41.aj trivial) ?_
  refine au ret (fun _=>rfl) (fun c16=>?_)
  refine ct (Z45.aj H0.2.2) ?_
  refine au ret (fun _=>rfl) (fun c17=>?_)
  refine ct (Z46.aj trivial) ?_
  refine au ret (fun c18=>?_) (fun _=>rfl)
  all_goals exact fz
def af:cy 226 aW:=W1 92 F mix aF bw (.cons Z41.af (.cons Z45.af (.cons Z46.af .nil))) Tryz.func226
def tr {a0:aE}(h:md a0=true):(1<=a0.bJ/\a0.bJ<=3)/\0<=a0.cA/\a0.cA<=a0.cu/\a0.cu<=100000/\0<=a0.ck/\a0.ck<=12:=by
 have key:∀x y z:Int,Z41.md x y z=true->y<=x/\x<=z:=fun x y z h=>by simpa [Z41.md] using h
 unfold md at h
 simp only [A5,Bool.not_not,Bool.and_eq_true] at h
 obtain ⟨_,_,_,_,h5,h6,h7,_,h8,_⟩:=h
 have:=key _ _ _ h5
 have:=key _ _ _ h6
 have:=key _ _ _ h7
 have:=key _ _ _ h8
 omega
end Z47
namespace Z48
def F (x0:bB):aH:=(bZ (eP (((2:Int)+(x0.aX.length:Int))*8)) (ret (([[L.int x0.cz],[L.int (x0.aX.length:Int)]]++x0.aX):aC)))
def md (a0:aM):List Int:=([a0.cz,(a0.aX.length:Int)]++a0.aX)
def gd (a0:aM):Prop:=(aM.Sm (2^21) a0)
def R:=RR gd md
def aj {a0}(h:gd a0):R (aM.r a0)=some ((md a0).map aZ):=aO (a:=a0) h
def aW:=CN [.agg iP] (oL 3) RT.dec R
def bw (a0)(hg:gd a0):F (aM.r a0)=ret ((md a0).map aZ):=by
 unfold gd at hg
 have H0:=hg
 unfold F md
 try simp only [SS]
 refine ak (have:=(H0).1;lm) ?_
 all_goals exact fz
def af:cy 230 aW:=W1 12 F mix aF bw .nil Tryz.func230
def len (a0:aM):(md a0).length=2+a0.aX.length:=by simp [md];omega
end Z48
namespace Z49
def F (x0 x1:Int):aH:=(call (Z41.R (x1,1,1000000000000)) fun v1=>(cond (!v1) (ret (0:Int)) (cond (decide (x1=0)) none (cond (decide (x1=0)) none (ret ((Int.tmod (i64.wrap ((Int.tmod x0 x1)+x1)) x1):Int))))))
def md (a0 a1:Int):Int:=(cond (!(Z41.md a1 1 1000000000000)) (0:Int) ((Int.tmod (i64.wrap ((Int.tmod a0 a1)+a1)) a1):Int))
def gd (a0 a1:Int):Prop:=True
def R:=RR (p2 gd) (u2 md)
def aj {a0 a1}(h:gd a0 a1):R (a0,a1)=some (md a0 a1):=aO (a:=(a0,a1)) h
def aW:=CN [pI,pI] oI RT.dec R
def bw (a0)(a1)(hg:gd a0 a1):F a0 a1=ret (md a0 a1):=by
 unfold F md
 try simp only [SS]
 refine ct (Z41.aj trivial) ?_
 refine au ret (fun _=>rfl) (fun c1=>?_)
 have dc1:=c1
 try simp only [DC] at dc1
 have Dc1:=c1
 try simp [Z41.md] at Dc1
 refine cL df ?_
 refine cL df ?_
 all_goals exact fz
def af:cy 262 aW:=W2 15 F mix aF bw (.cons Z41.af .nil) Tryz.func262
end Z49
namespace Z50
inductive Pt where
 | p0 (a:aC) (b c:Int)
def pid:Pt->Nat
 | .p0 ..=>3
def cj:Pt->List V
 | .p0 a b c=>[.sl none 3 a,.int .i64 b,.int .i64 c]
def cg:Pt->List aV
 | .p0 a b c=>[]
def step (J:Pt->aH):Pt->aH
 | .p0 a b c=>(cond (decide (c<(a.length:Int))) (m2 c (a.length:Int) (call (Z49.R ((jh a (toNat c)),2147483647)) fun v1=>J (.p0 a (Int.tmod (i64.wrap ((i64.wrap ((i64.wrap (b*1000003))+v1))+13)) 2147483647) (i64.wrap (c+1))))) (ret (b:Int)))
def start (J:Pt->aH)(x0:aC):aH:=J (.p0 x0 11 0)
def live:Nat->Live:=fun i=>match i with | 3=>[(0,none),(3,none),(4,none)] | _=>[]
def md (a0:List Int):Int:=(dS (S:=Int) (β:=Int) (fun (y1:Int) (s3:Int)=>(.inl (Int.tmod (i64.wrap ((i64.wrap ((i64.wrap (s3*1000003))+(Z49.md y1 2147483647)))+13)) 2147483647))) (fun (s3:Int)=>(s3:Int)) a0 11)
def gd (a0:List Int):Prop:=(bM (2^43) (fun y:Int=>True) a0)
def R:=RR gd md
def aj {a0}(h:gd a0):R (a0.map aZ)=some (md a0):=aO (a:=a0) h
def aW:=CN [pL 3] oI RT.dec R
def bw (a0)(hg:gd a0):∃n,start (iter step n) (a0.map aZ)=ret (md a0):=by
 unfold gd at hg
 have H0:=hg
 unfold start md
 try simp only [SS]
 have Bh2:a0.length<=maxLen:=(by
   have:=(H0).1
   try simp only [maxLen] at *
   omega)
 refine ex_eq (out:=ret) (eC (z:=0)) ?_
 refine dM (p:=Pt.p0 (a0.map aZ) 11 0) fz ?_
 refine cm (pt:=fun (i1:Nat) (s3:Int)=>Pt.p0 (a0.map aZ) s3 (i1:Int)) (s:=(11:Int)) (out:=ret) (fun _ _=>True) (fun J i1 s3 h2 hih2=>?_) (fun s3 hih2=>?_) trivial
 ·simp only [step,SS]
  have bb_:=Bh2
  simp only [maxLen] at bb_
  have:=(H0).1
  refine bz.yes (by apply decide_eq_true;omega) ?_
  refine bz.yes aJ ?_
  refine bz.yes (aN h2) ?_
  refine cr (Z49.aj trivial) ?_
  refine bz.inl trivial ?_
  rw [aG h2 Bh2]
  all_goals exact fz
 ·simp only [step,SS]
  have:=(H0).1
  refine dx (by apply decide_eq_false;omega) ?_
  refine ⟨0,?_⟩
  all_goals exact fz
def af:cy 232 aW:=L1 22 pid cj cg live step start mix aF bw (.cons Z49.af .nil) Tryz.func232
end Z50
namespace Z51
def F (x0:bB)(x1:Int):aH:=(call (Z48.R x0) fun v1=>(bZ (eP (((2:Int)+(v1.length:Int))*8)) (call (Z50.R ([[L.int 239],[L.int x1]]++v1)) fun v2=>ret (v2:Int))))
def md (a0:aM)(a1:Int):Int:=((Z50.md ([239,a1]++(Z48.md a0))):Int)
def gd (a0:aM)(a1:Int):Prop:=(aM.Sm (2^21) a0)
def R:=RR (p2 gd) (u2 md)
def aj {a0 a1}(h:gd a0 a1):R ((aM.r a0),a1)=some (md a0 a1):=aO (a:=(a0,a1)) h
def aW:=CN [.agg iP,pI] oI RT.dec R
def bw (a0)(a1)(hg:gd a0 a1):F (aM.r a0) a1=ret (md a0 a1):=by
 unfold gd at hg
 have H0:=hg
 unfold F md
 try simp only [SS]
 refine ct (Z48.aj H0) ?_
 try simp only [SS]
 refine ak (have:=Z48.len a0;have:=(H0).1;lm) ?_
 refine bp (Z50.md ([239,a1]++(Z48.md a0))) (rq (Z50.aj (a0:=([239,a1]++(Z48.md a0))) ⟨(have:=Z48.len a0;have:=(H0).1;om),fun _ _=>trivial⟩)) ?_
 all_goals exact fz
def af:cy 227 aW:=W2 11 F mix aF bw (.cons Z48.af (.cons Z50.af .nil)) Tryz.func227
end Z51
namespace Z52
def F (x0:bX):aH:=(call (Z48.R x0.bO) fun v1=>(bZ (eP (((8:Int)+(v1.length:Int))*8)) (call (Z48.R x0.bA) fun v2=>(bZ (eP (((([[L.int x0.bD],[L.int x0.cD],[L.int x0.bJ],[L.int x0.cA],[L.int x0.cu],[L.int x0.ck],[L.int x0.cQ],[L.int x0.dw]]++v1).length:Int)+(v2.length:Int))*8)) (bZ (eP ((((([[L.int x0.bD],[L.int x0.cD],[L.int x0.bJ],[L.int x0.cA],[L.int x0.cu],[L.int x0.ck],[L.int x0.cQ],[L.int x0.dw]]++v1)++v2).length:Int)+1)*8)) (call (Z48.R x0.bt) fun v3=>(bZ (eP (((((([[L.int x0.bD],[L.int x0.cD],[L.int x0.bJ],[L.int x0.cA],[L.int x0.cu],[L.int x0.ck],[L.int x0.cQ],[L.int x0.dw]]++v1)++v2)++[[L.int x0.cT]]).length:Int)+(v3.length:Int))*8)) (cond x0.bC (bZ (eP ((((((([[L.int x0.bD],[L.int x0.cD],[L.int x0.bJ],[L.int x0.cA],[L.int x0.cu],[L.int x0.ck],[L.int x0.cQ],[L.int x0.dw]]++v1)++v2)++[[L.int x0.cT]])++v3).length:Int)+1)*8)) (ret (((((([[L.int x0.bD],[L.int x0.cD],[L.int x0.bJ],[L.int x0.cA],[L.int x0.cu],[L.int x0.ck],[L.int x0.cQ],[L.int x0.dw]]++v1)++v2)++[[L.int x0.cT]])++v3)++[[L.int 1]]):aC))) (bZ (eP ((((((([[L.int x0.bD],[L.int x0.cD],[L.int x0.bJ],[L.int x0.cA],[L.int x0.cu],[L.int x0.ck],[L.int x0.cQ],[L.int x0.dw]]++v1)++v2)++[[L.int x0.cT]])++v3).length:Int)+1)*8)) (ret (((((([[L.int x0.bD],[L.int x0.cD],[L.int x0.bJ],[L.int x0.cA],[L.int x0.cu],[L.int x0.ck],[L.int x0.cQ],[L.int x0.dw]]++v1)++v2)++[[L.int x0.cT]])++v3)++[[L.int 0]]):aC)))))))))))
def md (a0:aE):List Int:=(cond a0.bC ((((([a0.bD,a0.cD,a0.bJ,a0.cA,a0.cu,a0.ck,a0.cQ,a0.dw]++(Z48.md a0.bO))++(Z48.md a0.bA))++[a0.cT])++(Z48.md a0.bt))++[1]) ((((([a0.bD,a0.cD,a0.bJ,a0.cA,a0.cu,a0.ck,a0.cQ,a0.dw]++(Z48.md a0.bO))++(Z48.md a0.bA))++[a0.cT])++(Z48.md a0.bt))++[0]))
def gd (a0:aE):Prop:=(aE.Sm (2^21) a0)
def R:=RR gd md
def aj {a0}(h:gd a0):R (aE.r a0)=some ((md a0).map aZ):=aO (a:=a0) h
def aW:=CN [.agg fU] (oL 3) RT.dec R
def bw (a0)(hg:gd a0):F (aE.r a0)=ret ((md a0).map aZ):=by
 unfold gd at hg
 have H0:=hg
 unfold F md
 try simp only [SS]
 refine ct (Z48.aj H0.1) ?_
 try simp only [SS]
 refine ak (have:=Z48.len a0.bO;have:=(H0.1).1;lm) ?_
 refine ct (Z48.aj H0.2.1) ?_
 try simp only [SS]
 refine ak (have:=Z48.len a0.bO;have:=(H0.1).1;have:=Z48.len a0.bA;have:=(H0.2.1).1;lm) ?_
 refine ak (have:=Z48.len a0.bO;have:=(H0.1).1;have:=Z48.len a0.bA;have:=(H0.2.1).1;lm) ?_
 refine ct (Z48.aj H0.2.2) ?_
 try simp only [SS]
 refine ak (have:=Z48.len a0.bO;have:=(H0.1).1;have:=Z48.len a0.bA;have:=(H0.2.1).1;have:=Z48.len a0.bt;have:=(H0.2.2).1;lm) ?_
 refine au (fun b:List Int=>ret ((b.map aZ):aC)) (fun c1=>?_) (fun c1=>?_)
 ·refine ak (have:=Z48.len a0.bO;have:=(H0.1).1;have:=Z48.len a0.bA;have:=(H0.2.1).1;have:=Z48.len a0.bt;have:=(H0.2.2).1;lm) ?_
  all_goals exact fz
 ·refine ak (have:=Z48.len a0.bO;have:=(H0.1).1;have:=Z48.len a0.bA;have:=(H0.2.1).1;have:=Z48.len a0.bt;have:=(H0.2.2).1;lm) ?_
  all_goals exact fz
def af:cy 190 aW:=W1 49 F mix aF bw (.cons Z48.af .nil) Tryz.func190
def len (a0:aE):(md a0).length=16+a0.bO.aX.length+a0.bA.aX.length+a0.bt.aX.length:=by unfold md;cases a0.bC<;>simp [Z48.md]<;>omega
def Al {k l:aM}{x y:List Int}(h:Z48.md k++x=Z48.md l++y):k=l/\x=y:=by
 obtain ⟨kl,kn⟩:=k
 obtain ⟨ll,ln⟩:=l
 simp only [Z48.md,List.cons_append,List.nil_append,List.cons.injEq] at h
 obtain ⟨h1,h2,h3⟩:=h
 obtain ⟨h4,h5⟩:=List.append_inj h3 (by omega)
 exact ⟨by rw [h1,h4],h5⟩
def sE (a:aE):md a=a.bD::a.cD::a.bJ::a.cA::a.cu::a.ck::a.cQ::a.dw::(Z48.md a.bO++(Z48.md a.bA++(a.cT::(Z48.md a.bt++[bif a.bC then 1 else 0])))):=by
 unfold md
 cases a.bC<;>simp only [bg,bq,List.append_assoc,List.cons_append,List.nil_append]
def inj {a b:aE}(h:md a=md b):a=b:=by
 rw [sE,sE] at h
 simp only [List.cons.injEq] at h
 obtain ⟨g1,g2,g3,g4,g5,g6,g7,g8,g9⟩:=h
 obtain ⟨k1,g9⟩:=Al g9
 obtain ⟨k2,g9⟩:=Al g9
 simp only [List.cons.injEq] at g9
 obtain ⟨k3,g9⟩:=g9
 obtain ⟨k4,g9⟩:=Al g9
 have k5:a.bC=b.bC:=by
  simp only [List.cons.injEq,and_true] at g9
  revert g9
  cases a.bC<;>cases b.bC<;>simp
 cases a;cases b
 simp only [aE.mk.injEq]
 exact ⟨g1,g2,g3,g4,g5,g6,g7,g8,k1,k2,k3,k4,k5⟩
end Z52
namespace Z53
def F (x0:Int)(x1:aC):aH:=(bZ (eP (((1:Int)+(x1.length:Int))*8)) (bZ (eP (((([[L.int x0]]++x1).length:Int)+1)*8)) (call (Z50.R (([[L.int x0]]++x1)++[[L.int x0]])) fun v1=>ret (v1:Int))))
def md (a0:Int)(a1:List Int):Int:=((Z50.md (([a0]++a1)++[a0])):Int)
def gd (a0:Int)(a1:List Int):Prop:=(bM (2^40) (fun y:Int=>True) a1)
def R:=RR (p2 gd) (u2 md)
def aj {a0 a1}(h:gd a0 a1):R (a0,(a1.map aZ))=some (md a0 a1):=aO (a:=(a0,a1)) h
def aW:=CN [pI,pL 3] oI RT.dec R
def bw (a0)(a1)(hg:gd a0 a1):F a0 (a1.map aZ)=ret (md a0 a1):=by
 unfold gd at hg
 have H1:=hg
 unfold F md
 try simp only [SS]
 refine ak (have:=(H1).1;lm) ?_
 refine ak (have:=(H1).1;lm) ?_
 refine bp (Z50.md (([a0]++a1)++[a0])) (rq (Z50.aj (a0:=(([a0]++a1)++[a0])) ⟨(have:=(H1).1;om),fun _ _=>trivial⟩)) ?_
 all_goals exact fz
def af:cy 315 aW:=W2 13 F mix aF bw (.cons Z50.af .nil) Tryz.func315
end Z53
namespace Z54
def F (x0:Int)(x1:aC):aH:=(bZ (eP (((1:Int)+(x1.length:Int))*8)) (call (Z53.R (x0,([[L.int 223]]++x1))) fun v1=>ret (v1:Int)))
def md (a0:Int)(a1:List Int):Int:=((Z53.md a0 ([223]++a1)):Int)
def gd (a0:Int)(a1:List Int):Prop:=(bM (2^39) (fun y:Int=>True) a1)
def R:=RR (p2 gd) (u2 md)
def aj {a0 a1}(h:gd a0 a1):R (a0,(a1.map aZ))=some (md a0 a1):=aO (a:=(a0,a1)) h
def aW:=CN [pI,pL 3] oI RT.dec R
def bw (a0)(a1)(hg:gd a0 a1):F a0 (a1.map aZ)=ret (md a0 a1):=by
 unfold gd at hg
 have H1:=hg
 unfold F md
 try simp only [SS]
 refine ak (have:=(H1).1;lm) ?_
 refine bp (Z53.md a0 ([223]++a1)) (rq (Z53.aj (a0:=a0) (a1:=([223]++a1)) ⟨(have:=(H1).1;om),fun _ _=>trivial⟩)) ?_
 all_goals exact fz
def af:cy 306 aW:=W2 10 F mix aF bw (.cons Z53.af .nil) Tryz.func306
end Z54
namespace Z55
def F (x0:bk)(x1:aC):aH:=(call (Z41.R (x0.gI,1,99)) fun v1=>(cond v1 (call (Z54.R (x0.gI,x1)) fun v2=>ret ((x0.jc==v2):Bool)) bh))
def md (a0:bk)(a1:List Int):Bool:=(cond (Z41.md a0.gI 1 99) ((a0.jc==(Z54.md a0.gI a1)):Bool) (false:Bool))
def gd (a0:bk)(a1:List Int):Prop:=(bM (2^38) (fun y:Int=>True) a1)
def R:=RR (p2 gd) (u2 md)
def aj {a0 a1}(h:gd a0 a1):R (a0,(a1.map aZ))=some (md a0 a1):=aO (a:=(a0,a1)) h
def aW:=CN [.agg xW,pL 3] oB RT.dec R
def bw (a0)(a1)(hg:gd a0 a1):F a0 (a1.map aZ)=ret (md a0 a1):=by
 unfold gd at hg
 have H1:=hg
 unfold F md
 try simp only [SS]
 refine ct (Z41.aj trivial) ?_
 refine au ret (fun c1=>?_) (fun _=>rfl)
 refine ct (Z54.aj (H1.mono (by decide) (fun x hx=>trivial))) ?_
 all_goals exact fz
def af:cy 283 aW:=W2 17 F mix aF bw (.cons Z41.af (.cons Z54.af .nil)) Tryz.func283
end Z55
namespace Z56
inductive Pt where
 | p0 (a b:aC) (c d:Int) (e:bB)
 | p1 (a b:aC) (c d e:Int) (f:bB)
def pid:Pt->Nat
 | .p0 ..=>3
 | .p1 ..=>6
def cj:Pt->List V
 | .p0 a b c d e=>[.sl none 3 a,.sl none 190 b,.cK 0 0,.int .i64 c,.int .i64 d]
 | .p1 a b c d e f=>[.sl none 3 a,.sl none 190 b,.cK 0 0,.int .i64 c,.int .i64 d,.int .i64 e]
def cg:Pt->List aV
 | .p0 a b c d e=>[.box [.sl none 3 e.aX,.int .i64 e.cz]]
 | .p1 a b c d e f=>[.box [.sl none 3 f.aX,.int .i64 f.cz]]
def step (J:Pt->aH):Pt->aH
 | .p0 a b c d e=>(cond (decide (d<(e.aX.length:Int))) (J (.p1 a b c d 0 e)) (ret (c:Int)))
 | .p1 a b c d e f=>(cond (decide (e<(b.length:Int))) (m2 e (b.length:Int) (m2 d (f.aX.length:Int) (cond ((bk.at b (toNat e)).gI==(jh f.aX (toNat d))) (m2 e (b.length:Int) (call (Z55.R ((bk.at b (toNat e)),a)) fun v1=>(cond v1 (J (.p0 a b (i64.wrap (c+1)) (i64.wrap (d+1)) f)) (J (.p1 a b c d (i64.wrap (e+1)) f))))) (J (.p1 a b c d (i64.wrap (e+1)) f))))) (J (.p0 a b c (i64.wrap (d+1)) f)))
def start (J:Pt->aH)(x0:bB)(x1 x2:aC):aH:=J (.p0 x1 x2 0 0 x0)
def live:Nat->Live:=fun i=>match i with | 3=>[(1,none),(2,none),(3,none),(7,none),(8,none)] | 6=>[(1,none),(2,none),(3,none),(7,none),(8,none),(9,none)] | _=>[]
def md (a0:aM)(a1:List Int)(a2:List bk):Int:=(dS (S:=Int) (β:=Int) (fun (y1:Int) (s3:Int)=>(dS (S:=Unit) (β:=(Int⊕Int)) (fun (y5:bk) (s7:Unit)=>(cond (y5.gI==y1) (cond (Z55.md y5 a1) (.inr (.inl (i64.wrap (s3+1)))) (.inl ())) (.inl ()))) (fun (s7:Unit)=>(.inl s3)) a2 ())) (fun (s3:Int)=>(s3:Int)) a0.aX 0)
def gd (a0:aM)(a1:List Int)(a2:List bk):Prop:=(aM.Sm (2^21) a0)/\(bM (2^38) (fun y:Int=>True) a1)/\(bM (2^21) (fun y:bk=>bk.Sm (2^21) y) a2)
def R:=RR (p3 gd) (u3 md)
def aj {a0 a1 a2}(h:gd a0 a1 a2):R ((aM.r a0),(a1.map aZ),(a2.map bk.row))=some (md a0 a1 a2):=aO (a:=(a0,a1,a2)) h
def aW:=CN [.agg iP,pL 3,pL 190] oI RT.dec R
def bw (a0)(a1)(a2)(hg:gd a0 a1 a2):∃n,start (iter step n) (aM.r a0) (a1.map aZ) (a2.map bk.row)=ret (md a0 a1 a2):=by
 obtain ⟨H0,H1,H2⟩:=hg
 unfold start md
 try simp only [SS]
 have Bh2:a0.aX.length<=maxLen:=(by
   have:=(H0).1
   try simp only [maxLen] at *
   omega)
 refine ex_eq (out:=ret) (eC (z:=0)) ?_
 refine dM (p:=Pt.p0 (a1.map aZ) (a2.map bk.row) 0 0 (aM.r a0)) fz ?_
 refine uC (pt:=fun (i1:Nat) (s3:Int)=>Pt.p0 (a1.map aZ) (a2.map bk.row) s3 (i1:Int) (aM.r a0)) (s:=(0:Int)) (out:=ret) (fun _ _=>True) (fun i1 s3 h2 hih2 K4 hK4 rK4=>?_) (fun s3 hih2=>?_) trivial
 ·simp only [step,SS]
  have bb_:=Bh2
  simp only [maxLen] at bb_
  have:=(H0).1
  refine dH (by apply decide_eq_true;omega) ?_
  have Bh6:a2.length<=maxLen:=(by
    have:=(H2).1
    try simp only [maxLen] at *
    omega)
  refine ex_eq (out:=K4) (eC (z:=bk.zero)) ?_
  refine dM (p:=Pt.p1 (a1.map aZ) (a2.map bk.row) s3 (i1:Int) 0 (aM.r a0)) fz ?_
  refine uC (pt:=fun (i5:Nat) (s7:Unit)=>Pt.p1 (a1.map aZ) (a2.map bk.row) s3 (i1:Int) (i5:Int) (aM.r a0)) (s:=(():Unit)) (out:=K4) (fun _ _=>True) (fun i5 s7 h6 hih6 K8 hK8 rK8=>?_) (fun s7 hih6=>?_) trivial
  ·simp only [step,SS]
   have bb_:=Bh6
   simp only [maxLen] at bb_
   have:=(H2).1
   refine dH (by apply decide_eq_true;omega) ?_
   refine dH aJ ?_
   refine dH (aN h6) ?_
   refine dH dt ?_
   refine dH (have:=(H0).1;dt) ?_
   refine gP K8 (fun c9=>?_) (fun c9=>?_)
   ·refine dH aJ ?_
    refine dH (aN h6) ?_
    refine cx (Z55.aj H1) ?_
    refine gP K8 (fun c10=>?_) (fun c10=>?_)
    ·rw [rK8]
     rw [aG h2 Bh2]
     first | exact hK4 _ trivial | (simp only [SS];exact hK4 _ trivial) | (simp only [MP];exact hK4 _ trivial)
    ·rw [aG h6 Bh6]
     first | exact hK8 _ trivial | (simp only [SS];exact hK8 _ trivial) | (simp only [MP];exact hK8 _ trivial)
   ·rw [aG h6 Bh6]
    first | exact hK8 _ trivial | (simp only [SS];exact hK8 _ trivial) | (simp only [MP];exact hK8 _ trivial)
  ·simp only [step,SS]
   have:=(H2).1
   refine dx (by apply decide_eq_false;omega) ?_
   rw [aG h2 Bh2]
   first | exact hK4 _ trivial | (simp only [SS];exact hK4 _ trivial) | (simp only [MP];exact hK4 _ trivial)
 ·simp only [step,SS]
  have:=(H0).1
  refine dx (by apply decide_eq_false;omega) ?_
  refine ⟨0,?_⟩
  all_goals exact fz
def af:cy 257 aW:=L3 45 pid cj cg live step start mix aF bw (.cons Z55.af .nil) Tryz.func257
end Z56
namespace Z57
def F (x0:bB)(x1 x2:aC):aH:=(call (Z45.R x0) fun v1=>(cond v1 (call (Z56.R (x0,x1,x2)) fun v2=>ret ((decide (v2>=x0.cz)):Bool)) bh))
def md (a0:aM)(a1:List Int)(a2:List bk):Bool:=(cond (Z45.md a0) ((decide ((Z56.md a0 a1 a2)>=a0.cz)):Bool) (false:Bool))
def gd (a0:aM)(a1:List Int)(a2:List bk):Prop:=(aM.Sm (2^21) a0)/\(bM (2^38) (fun y:Int=>True) a1)/\(bM (2^21) (fun y:bk=>bk.Sm (2^21) y) a2)
def R:=RR (p3 gd) (u3 md)
def aj {a0 a1 a2}(h:gd a0 a1 a2):R ((aM.r a0),(a1.map aZ),(a2.map bk.row))=some (md a0 a1 a2):=aO (a:=(a0,a1,a2)) h
def aW:=CN [.agg iP,pL 3,pL 190] oB RT.dec R
def bw (a0)(a1)(a2)(hg:gd a0 a1 a2):F (aM.r a0) (a1.map aZ) (a2.map bk.row)=ret (md a0 a1 a2):=by
 obtain ⟨H0,H1,H2⟩:=hg
 unfold F md
 try simp only [SS]
 refine ct (Z45.aj H0) ?_
 refine au ret (fun c1=>?_) (fun _=>rfl)
 refine ct (Z56.aj ⟨H0,H1,H2⟩) ?_
 all_goals exact fz
def af:cy 228 aW:=W3 18 F mix aF bw (.cons Z45.af (.cons Z56.af .nil)) Tryz.func228
end Z57
namespace Z58
def F (x0:aP):aH:=(call (Z47.R x0.an) fun v1=>(cond v1 (cond (x0.an.cD==0) (cond (x0.an.bJ==1) (cond (!x0.an.bC) (call (Z51.R (x0.an.bO,x0.an.dw)) fun v2=>(cond (x0.an.bD==v2) (call (Z52.R x0.an) fun v3=>(call (Z57.R (x0.an.bO,v3,x0.bY)) fun v4=>ret (v4:Bool))) bh)) bh) bh) bh) bh))
def md (a0:aa):Bool:=(cond (Z47.md a0.an) (cond (a0.an.cD==0) (cond (a0.an.bJ==1) (cond (!a0.an.bC) (cond (a0.an.bD==(Z51.md a0.an.bO a0.an.dw)) ((Z57.md a0.an.bO (Z52.md a0.an) a0.bY):Bool) (false:Bool)) (false:Bool)) (false:Bool)) (false:Bool)) (false:Bool))
def gd (a0:aa):Prop:=(aa.Sm (2^21) a0)
def R:=RR gd md
def aj {a0}(h:gd a0):R (aa.r a0)=some (md a0):=aO (a:=a0) h
def aW:=CN [.agg kD] oB RT.dec R
def bw (a0)(hg:gd a0):F (aa.r a0)=ret (md a0):=by
 unfold gd at hg
 have H0:=hg
 unfold F md
 try simp only [SS]
 refine ct (Z47.aj H0.1) ?_
 refine au ret (fun c1=>?_) (fun _=>rfl)
 try have tc1:=Z47.tr (by simpa using c1)
 refine au ret (fun c2=>?_) (fun _=>rfl)
 have dc2:=c2
 try simp only [DC] at dc2
 refine au ret (fun c3=>?_) (fun _=>rfl)
 have dc3:=c3
 try simp only [DC] at dc3
 refine au ret (fun c4=>?_) (fun _=>rfl)
 have dc4:=c4
 try simp only [DC] at dc4
 refine ct (Z51.aj H0.1.1) ?_
 refine au ret (fun c5=>?_) (fun _=>rfl)
 have dc5:=c5
 try simp only [DC] at dc5
 refine ct (Z52.aj H0.1) ?_
 try simp only [SS]
 refine ct (Z57.aj ⟨H0.1.1,⟨(have:=Z52.len a0.an;have:=(H0.1.1).1;have:=(H0.1.2.1).1;have:=(H0.1.2.2).1;om),fun _ _=>trivial⟩,H0.2⟩) ?_
 all_goals exact fz
def af:cy 187 aW:=W1 42 F mix aF bw (.cons Z47.af (.cons Z51.af (.cons Z52.af (.cons Z57.af .nil)))) Tryz.func187
end Z58
namespace Z59
def F (x0:bX):aH:=(call (Z52.R x0) fun v1=>(bZ (eP (((1:Int)+(v1.length:Int))*8)) (call (Z50.R ([[L.int 233]]++v1)) fun v2=>ret (v2:Int))))
def md (a0:aE):Int:=((Z50.md ([233]++(Z52.md a0))):Int)
def gd (a0:aE):Prop:=(aE.Sm (2^21) a0)
def R:=RR gd md
def aj {a0}(h:gd a0):R (aE.r a0)=some (md a0):=aO (a:=a0) h
def aW:=CN [.agg fU] oI RT.dec R
def bw (a0)(hg:gd a0):F (aE.r a0)=ret (md a0):=by
 unfold gd at hg
 have H0:=hg
 unfold F md
 try simp only [SS]
 refine ct (Z52.aj H0) ?_
 try simp only [SS]
 refine ak (have:=Z52.len a0;have:=(H0.1).1;have:=(H0.2.1).1;have:=(H0.2.2).1;lm) ?_
 refine bp (Z50.md ([233]++(Z52.md a0))) (rq (Z50.aj (a0:=([233]++(Z52.md a0))) ⟨(have:=Z52.len a0;have:=(H0.1).1;have:=(H0.2.1).1;have:=(H0.2.2).1;om),fun _ _=>trivial⟩)) ?_
 all_goals exact fz
def af:cy 258 aW:=W1 8 F mix aF bw (.cons Z52.af (.cons Z50.af .nil)) Tryz.func258
end Z59
namespace Z60
def F (x0 x1:bX):aH:=(cond x0.bC (ret (4:Int)) (cond x1.bC (ret (6:Int)) (ret (1:Int))))
def md (a0 a1:aE):Int:=(cond a0.bC (4:Int) (cond a1.bC (6:Int) (1:Int)))
def gd (a0 a1:aE):Prop:=True
def R:=RR (p2 gd) (u2 md)
def aj {a0 a1}(h:gd a0 a1):R ((aE.r a0),(aE.r a1))=some (md a0 a1):=aO (a:=(a0,a1)) h
def aW:=CN [.agg fU,.agg fU] oI RT.dec R
def bw (a0)(a1)(hg:gd a0 a1):F (aE.r a0) (aE.r a1)=ret (md a0 a1):=by
 unfold F md
 try simp only [SS]
 refine au ret (fun _=>rfl) (fun c1=>?_)
 refine au ret (fun _=>rfl) (fun _=>rfl)
def af:cy 259 aW:=W2 11 F mix aF bw .nil Tryz.func259
end Z60
namespace Z61
inductive Pt where
 | p0 (a b:aC) (c:Int)
def pid:Pt->Nat
 | .p0 ..=>4
def cj:Pt->List V
 | .p0 a b c=>[.sl none 3 a,.sl none 3 b,.int .i64 c]
def cg:Pt->List aV
 | .p0 a b c=>[]
def step (J:Pt->aH):Pt->aH
 | .p0 a b c=>(cond (decide (c<(a.length:Int))) (m2 c (a.length:Int) (m2 c (b.length:Int) (cond ((jh a (toNat c)) != (jh b (toNat c))) bh (J (.p0 a b (i64.wrap (c+1))))))) eI)
def start (J:Pt->aH)(x0 x1:aC):aH:=(cond ((x0.length:Int) != (x1.length:Int)) bh (J (.p0 x0 x1 0)))
def live:Nat->Live:=fun i=>match i with | 4=>[(0,none),(1,none),(5,none)] | _=>[]
def md (a0 a1:List Int):Bool:=(bif ((a0.length:Int) != (a1.length:Int)) then (false:Bool) else (ec (S:=Unit) (β:=Bool) (fun (i2:Nat) (s4:Unit)=>(cond ((a0.getD i2 0) != (a1.getD i2 0)) (.inr (false:Bool)) (.inl ()))) (fun (s4:Unit)=>(true:Bool)) a0.length 0 ()))
def gd (a0 a1:List Int):Prop:=(bM (2^38) (fun y:Int=>True) a0)/\(bM (2^38) (fun y:Int=>True) a1)
def R:=RR (p2 gd) (u2 md)
def aj {a0 a1}(h:gd a0 a1):R ((a0.map aZ),(a1.map aZ))=some (md a0 a1):=aO (a:=(a0,a1)) h
def aW:=CN [pL 3,pL 3] oB RT.dec R
def bw (a0)(a1)(hg:gd a0 a1):∃n,start (iter step n) (a0.map aZ) (a1.map aZ)=ret (md a0 a1):=by
 obtain ⟨H0,H1⟩:=hg
 unfold start md
 try simp only [SS]
 refine gP ret (fun _=>⟨0,rfl⟩) (fun c1=>?_)
 have dc1:=c1
 try simp only [DC] at dc1
 have Bh3:a0.length<=maxLen:=(by
   have:=(H0).1
   try simp only [maxLen] at *
   omega)
 refine dM (p:=Pt.p0 (a0.map aZ) (a1.map aZ) 0) fz ?_
 refine cm (pt:=fun (i2:Nat) (s4:Unit)=>Pt.p0 (a0.map aZ) (a1.map aZ) (i2:Int)) (s:=(():Unit)) (out:=ret) (fun _ _=>True) (fun J i2 s4 h3 hih3=>?_) (fun s4 hih3=>?_) trivial
 ·simp only [step,SS]
  have bb_:=Bh3
  simp only [maxLen] at bb_
  have:=(H0).1
  refine bz.yes (by apply decide_eq_true;omega) ?_
  refine bz.yes aJ ?_
  refine bz.yes (aN h3) ?_
  refine bz.yes aJ ?_
  refine bz.yes (have:=(H1).1;dt) ?_
  refine bz.bif (fun _=>bz.inr rfl) (fun c5=>?_)
  refine bz.inl trivial ?_
  rw [aG h3 Bh3]
  all_goals exact fz
 ·simp only [step,SS]
  have:=(H0).1
  refine dx (by apply decide_eq_false;omega) ?_
  refine ⟨0,?_⟩
  all_goals exact fz
def af:cy 189 aW:=L2 26 pid cj cg live step start mix aF bw .nil Tryz.func189
def md_eq (a0 a1:List Int):md a0 a1=dV a0 a1:=by
 unfold md
 refine jZ (0) (fun i s h h2=>?_) (fun s=>rfl)
 simp only [bne,ff,bool_beq,eM]
 cases dV _ _<;>rfl
end Z61
namespace Z62
def F (x0 x1:bB):aH:=(cond (x0.cz==x1.cz) (call (Z61.R (x0.aX,x1.aX)) fun v1=>ret (v1:Bool)) bh)
def md (a0 a1:aM):Bool:=(cond (a0.cz==a1.cz) ((Z61.md a0.aX a1.aX):Bool) (false:Bool))
def gd (a0 a1:aM):Prop:=(aM.Sm (2^21) a0)/\(aM.Sm (2^21) a1)
def R:=RR (p2 gd) (u2 md)
def aj {a0 a1}(h:gd a0 a1):R ((aM.r a0),(aM.r a1))=some (md a0 a1):=aO (a:=(a0,a1)) h
def aW:=CN [.agg iP,.agg iP] oB RT.dec R
def bw (a0)(a1)(hg:gd a0 a1):F (aM.r a0) (aM.r a1)=ret (md a0 a1):=by
 obtain ⟨H0,H1⟩:=hg
 unfold F md
 try simp only [SS]
 refine au ret (fun c1=>?_) (fun _=>rfl)
 refine ct (Z61.aj ⟨(H0.mono (by decide) (fun x hx=>trivial)),(H1.mono (by decide) (fun x hx=>trivial))⟩) ?_
 all_goals exact fz
def af:cy 284 aW:=W2 17 F mix aF bw (.cons Z61.af .nil) Tryz.func284
def md_eq (a0 a1:aM):md a0 a1=dV a0 a1:=by
 unfold md
 cases a0;cases a1
 rw [Bool.eq_iff_iff]
 simp [cZ,eM,aM.mk.injEq,Z61.md_eq]
 try (constructor<;>(intro h;simp_all))
end Z62
namespace Z63
def F (x0 x1:bX):aH:=(cond (x0.ck==x1.ck) (ret ((x0.cQ==x1.cQ):Bool)) bh)
def md (a0 a1:aE):Bool:=(cond (a0.ck==a1.ck) ((a0.cQ==a1.cQ):Bool) (false:Bool))
def gd (a0 a1:aE):Prop:=True
def R:=RR (p2 gd) (u2 md)
def aj {a0 a1}(h:gd a0 a1):R ((aE.r a0),(aE.r a1))=some (md a0 a1):=aO (a:=(a0,a1)) h
def aW:=CN [.agg fU,.agg fU] oB RT.dec R
def bw (a0)(a1)(hg:gd a0 a1):F (aE.r a0) (aE.r a1)=ret (md a0 a1):=by
 unfold F md
 try simp only [SS]
 refine au ret (fun c1=>?_) (fun _=>rfl)
 all_goals exact fz
def af:cy 285 aW:=W2 17 F mix aF bw .nil Tryz.func285
end Z63
namespace Z64
def F (x0 x1:bX):aH:=(cond x0.bC (ret (4:Int)) (call (Z46.R x0.bA) fun v1=>(cond v1 (ret (5:Int)) (cond (decide (x1.cA<(i64.wrap (x0.cu+x0.cT)))) (ret (5:Int)) (cond x1.bC (ret (6:Int)) (call (Z62.R (x1.bO,x0.bA)) fun v2=>(cond (!v2) (ret (6:Int)) (call (Z63.R (x1,x0)) fun v3=>(cond (!v3) (ret (6:Int)) (ret (1:Int)))))))))))
def md (a0 a1:aE):Int:=(cond a0.bC (4:Int) (cond (Z46.md a0.bA) (5:Int) (cond (decide (a1.cA<(i64.wrap (a0.cu+a0.cT)))) (5:Int) (cond a1.bC (6:Int) (cond (!(Z62.md a1.bO a0.bA)) (6:Int) (cond (!(Z63.md a1 a0)) (6:Int) (1:Int)))))))
def gd (a0 a1:aE):Prop:=(aE.Sm (2^21) a0)/\(aE.Sm (2^21) a1)
def R:=RR (p2 gd) (u2 md)
def aj {a0 a1}(h:gd a0 a1):R ((aE.r a0),(aE.r a1))=some (md a0 a1):=aO (a:=(a0,a1)) h
def aW:=CN [.agg fU,.agg fU] oI RT.dec R
def bw (a0)(a1)(hg:gd a0 a1):F (aE.r a0) (aE.r a1)=ret (md a0 a1):=by
 obtain ⟨H0,H1⟩:=hg
 unfold F md
 try simp only [SS]
 refine au ret (fun _=>rfl) (fun c1=>?_)
 refine ct (Z46.aj trivial) ?_
 refine au ret (fun _=>rfl) (fun c2=>?_)
 refine au ret (fun _=>rfl) (fun c3=>?_)
 refine au ret (fun _=>rfl) (fun c4=>?_)
 refine ct (Z62.aj ⟨H1.1,H0.2.1⟩) ?_
 refine au ret (fun _=>rfl) (fun c5=>?_)
 refine ct (Z63.aj trivial) ?_
 refine au ret (fun _=>rfl) (fun _=>rfl)
def af:cy 260 aW:=W2 39 F mix aF bw (.cons Z46.af (.cons Z62.af (.cons Z63.af .nil))) Tryz.func260
end Z64
namespace Z65
def F (x0 x1:bX):aH:=(call (Z46.R x0.bt) fun v1=>(cond v1 (ret (5:Int)) (cond (x1.bC==x0.bC) (ret (6:Int)) (call (Z63.R (x1,x0)) fun v2=>(cond (!v2) (ret (6:Int)) (call (Z62.R (x1.bt,x0.bt)) fun v3=>(cond (!v3) (ret (6:Int)) (call (Z62.R (x1.bA,x0.bA)) fun v4=>(cond (!v4) (ret (6:Int)) (cond (x1.cT != x0.cT) (ret (6:Int)) (cond x1.bC (call (Z62.R (x1.bO,x0.bO)) fun v5=>(cond (!v5) (ret (6:Int)) (ret (1:Int)))) (ret (1:Int)))))))))))))
def md (a0 a1:aE):Int:=(cond (Z46.md a0.bt) (5:Int) (cond (a1.bC==a0.bC) (6:Int) (cond (!(Z63.md a1 a0)) (6:Int) (cond (!(Z62.md a1.bt a0.bt)) (6:Int) (cond (!(Z62.md a1.bA a0.bA)) (6:Int) (cond (a1.cT != a0.cT) (6:Int) (cond a1.bC (cond (!(Z62.md a1.bO a0.bO)) (6:Int) (1:Int)) (1:Int))))))))
def gd (a0 a1:aE):Prop:=(aE.Sm (2^21) a0)/\(aE.Sm (2^21) a1)
def R:=RR (p2 gd) (u2 md)
def aj {a0 a1}(h:gd a0 a1):R ((aE.r a0),(aE.r a1))=some (md a0 a1):=aO (a:=(a0,a1)) h
def aW:=CN [.agg fU,.agg fU] oI RT.dec R
def bw (a0)(a1)(hg:gd a0 a1):F (aE.r a0) (aE.r a1)=ret (md a0 a1):=by
 obtain ⟨H0,H1⟩:=hg
 unfold F md
 try simp only [SS]
 refine ct (Z46.aj trivial) ?_
 refine au ret (fun _=>rfl) (fun c1=>?_)
 refine au ret (fun _=>rfl) (fun c2=>?_)
 refine ct (Z63.aj trivial) ?_
 refine au ret (fun _=>rfl) (fun c3=>?_)
 refine ct (Z62.aj ⟨H1.2.2,H0.2.2⟩) ?_
 refine au ret (fun _=>rfl) (fun c4=>?_)
 refine ct (Z62.aj ⟨H1.2.1,H0.2.1⟩) ?_
 refine au ret (fun _=>rfl) (fun c5=>?_)
 refine au ret (fun _=>rfl) (fun c6=>?_)
 refine au ret (fun c7=>?_) (fun _=>rfl)
 refine ct (Z62.aj ⟨H1.1,H0.1⟩) ?_
 refine au ret (fun _=>rfl) (fun _=>rfl)
def af:cy 261 aW:=W2 55 F mix aF bw (.cons Z46.af (.cons Z63.af (.cons Z62.af .nil))) Tryz.func261
end Z65
namespace Z66
def F (x0:bX)(x1:aP):aH:=(call (Z47.R x0) fun v1=>(cond (!v1) (ret (2:Int)) (call (Z47.R x1.an) fun v2=>(cond (!v2) (ret (2:Int)) (cond (x1.an.bD != x0.bD) (ret (3:Int)) (cond (x1.an.cD != (i64.wrap (x0.cD+1))) (ret (3:Int)) (call (Z59.R x0) fun v3=>(cond (x1.an.dw != v3) (ret (3:Int)) (cond (decide (x1.an.cA<x0.cA)) (ret (3:Int)) (call (Z60.R (x0,x1.an)) fun v4=>(cond (x1.an.bJ==2) (call (Z64.R (x0,x1.an)) fun v5=>(cond (v5==1) (call (Z52.R x1.an) fun v6=>(call (Z57.R (x0.bA,v6,x1.bY)) fun v7=>(cond (!v7) (ret (7:Int)) (ret (v5:Int))))) (ret (v5:Int)))) (cond (x1.an.bJ==3) (call (Z65.R (x0,x1.an)) fun v8=>(cond (v8==1) (call (Z52.R x1.an) fun v9=>(call (Z57.R (x0.bt,v9,x1.bY)) fun v10=>(cond (!v10) (ret (7:Int)) (ret (v8:Int))))) (ret (v8:Int)))) (cond (v4==1) (call (Z52.R x1.an) fun v11=>(call (Z57.R (x0.bO,v11,x1.bY)) fun v12=>(cond (!v12) (ret (7:Int)) (ret (v4:Int))))) (ret (v4:Int)))))))))))))))
def md (a0:aE)(a1:aa):Int:=(cond (!(Z47.md a0)) (2:Int) (cond (!(Z47.md a1.an)) (2:Int) (cond (a1.an.bD != a0.bD) (3:Int) (cond (a1.an.cD != (i64.wrap (a0.cD+1))) (3:Int) (cond (a1.an.dw != (Z59.md a0)) (3:Int) (cond (decide (a1.an.cA<a0.cA)) (3:Int) (cond (a1.an.bJ==2) (cond ((Z64.md a0 a1.an)==1) (cond (!(Z57.md a0.bA (Z52.md a1.an) a1.bY)) (7:Int) ((Z64.md a0 a1.an):Int)) ((Z64.md a0 a1.an):Int)) (cond (a1.an.bJ==3) (cond ((Z65.md a0 a1.an)==1) (cond (!(Z57.md a0.bt (Z52.md a1.an) a1.bY)) (7:Int) ((Z65.md a0 a1.an):Int)) ((Z65.md a0 a1.an):Int)) (cond ((Z60.md a0 a1.an)==1) (cond (!(Z57.md a0.bO (Z52.md a1.an) a1.bY)) (7:Int) ((Z60.md a0 a1.an):Int)) ((Z60.md a0 a1.an):Int))))))))))
def gd (a0:aE)(a1:aa):Prop:=(aE.Sm (2^21) a0)/\(aa.Sm (2^21) a1)
def R:=RR (p2 gd) (u2 md)
def aj {a0 a1}(h:gd a0 a1):R ((aE.r a0),(aa.r a1))=some (md a0 a1):=aO (a:=(a0,a1)) h
def aW:=CN [.agg fU,.agg kD] oI RT.dec R
def bw (a0)(a1)(hg:gd a0 a1):F (aE.r a0) (aa.r a1)=ret (md a0 a1):=by
 obtain ⟨H0,H1⟩:=hg
 unfold F md
 try simp only [SS]
 refine ct (Z47.aj H0) ?_
 refine au ret (fun _=>rfl) (fun c1=>?_)
 have dc1:=c1
 try simp only [DC] at dc1
 try have tc1:=Z47.tr (by simpa using c1)
 refine ct (Z47.aj H1.1) ?_
 refine au ret (fun _=>rfl) (fun c2=>?_)
 have dc2:=c2
 try simp only [DC] at dc2
 try have tc2:=Z47.tr (by simpa using c2)
 refine au ret (fun _=>rfl) (fun c3=>?_)
 have dc3:=c3
 try simp only [DC] at dc3
 refine au ret (fun _=>rfl) (fun c4=>?_)
 have dc4:=c4
 try simp only [DC] at dc4
 refine ct (Z59.aj H0) ?_
 refine au ret (fun _=>rfl) (fun c5=>?_)
 have dc5:=c5
 try simp only [DC] at dc5
 refine au ret (fun _=>rfl) (fun c6=>?_)
 have dc6:=c6
 try simp only [DC] at dc6
 refine ct (Z60.aj trivial) ?_
 refine au ret (fun c7=>?_) (fun c7=>?_)
 ·have dc7:=c7
  try simp only [DC] at dc7
  refine ct (Z64.aj ⟨H0,H1.1⟩) ?_
  refine au ret (fun c8=>?_) (fun c8=>?_)
  ·have dc8:=c8
   try simp only [DC] at dc8
   refine ct (Z52.aj H1.1) ?_
   try simp only [SS]
   refine ct (Z57.aj ⟨H0.2.1,⟨(have:=Z52.len a1.an;have:=(H1.1.1).1;have:=(H1.1.2.1).1;have:=(H1.1.2.2).1;om),fun _ _=>trivial⟩,H1.2⟩) ?_
   refine au ret (fun _=>rfl) (fun c9=>?_)
   all_goals exact fz
  ·all_goals exact fz
 ·have dc7:=c7
  try simp only [DC] at dc7
  refine au ret (fun c10=>?_) (fun c10=>?_)
  ·have dc10:=c10
   try simp only [DC] at dc10
   refine ct (Z65.aj ⟨H0,H1.1⟩) ?_
   refine au ret (fun c11=>?_) (fun c11=>?_)
   ·have dc11:=c11
    try simp only [DC] at dc11
    refine ct (Z52.aj H1.1) ?_
    try simp only [SS]
    refine ct (Z57.aj ⟨H0.2.2,⟨(have:=Z52.len a1.an;have:=(H1.1.1).1;have:=(H1.1.2.1).1;have:=(H1.1.2.2).1;om),fun _ _=>trivial⟩,H1.2⟩) ?_
    refine au ret (fun _=>rfl) (fun c12=>?_)
    all_goals exact fz
   ·all_goals exact fz
  ·have dc10:=c10
   try simp only [DC] at dc10
   refine au ret (fun c13=>?_) (fun c13=>?_)
   ·have dc13:=c13
    try simp only [DC] at dc13
    refine ct (Z52.aj H1.1) ?_
    try simp only [SS]
    refine ct (Z57.aj ⟨H0.1,⟨(have:=Z52.len a1.an;have:=(H1.1.1).1;have:=(H1.1.2.1).1;have:=(H1.1.2.2).1;om),fun _ _=>trivial⟩,H1.2⟩) ?_
    refine au ret (fun _=>rfl) (fun c14=>?_)
    all_goals exact fz
   ·all_goals exact fz
def af:cy 229 aW:=W2 78 F mix aF bw (.cons Z47.af (.cons Z59.af (.cons Z60.af (.cons Z64.af (.cons Z52.af (.cons Z57.af (.cons Z65.af .nil))))))) Tryz.func229
end Z66
namespace Z67
def F (x0:bX)(x1:aP):aH:=(call (Z66.R (x0,x1)) fun v1=>ret ((v1==1):Bool))
def md (a0:aE)(a1:aa):Bool:=(((Z66.md a0 a1)==1):Bool)
def gd (a0:aE)(a1:aa):Prop:=(aE.Sm (2^21) a0)/\(aa.Sm (2^21) a1)
def R:=RR (p2 gd) (u2 md)
def aj {a0 a1}(h:gd a0 a1):R ((aE.r a0),(aa.r a1))=some (md a0 a1):=aO (a:=(a0,a1)) h
def aW:=CN [.agg fU,.agg kD] oB RT.dec R
def bw (a0)(a1)(hg:gd a0 a1):F (aE.r a0) (aa.r a1)=ret (md a0 a1):=by
 obtain ⟨H0,H1⟩:=hg
 unfold F md
 try simp only [SS]
 refine ct (Z66.aj ⟨H0,H1⟩) ?_
 all_goals exact fz
def af:cy 188 aW:=W2 9 F mix aF bw (.cons Z66.af .nil) Tryz.func188
end Z67
namespace Z68
inductive Pt where
 | p0 (a:aC) (b:Int)
def pid:Pt->Nat
 | .p0 ..=>2
def cj:Pt->List V
 | .p0 a b=>[.sl none 141 a,.int .i64 b]
def cg:Pt->List aV
 | .p0 a b=>[]
def step (J:Pt->aH):Pt->aH
 | .p0 a b=>(cond (decide (b<(a.length:Int))) (cond (b==0) (bZ (decide ((0:Int)<(a.length:Int))) (call (Z58.R (aP.at a 0)) fun v1=>(cond (!v1) (ret (b:Int)) (cond (decide (b>0)) (bZ (decide ((0:Int)<=(i64.wrap (b - 1)))) (bZ (decide ((i64.wrap (b - 1))<(a.length:Int))) (m2 b (a.length:Int) (call (Z67.R ((aP.at a (toNat (i64.wrap (b - 1)))).an,(aP.at a (toNat b)))) fun v2=>(cond (!v2) (ret (b:Int)) (J (.p0 a (i64.wrap (b+1))))))))) (J (.p0 a (i64.wrap (b+1)))))))) (cond (decide (b>0)) (bZ (decide ((0:Int)<=(i64.wrap (b - 1)))) (bZ (decide ((i64.wrap (b - 1))<(a.length:Int))) (m2 b (a.length:Int) (call (Z67.R ((aP.at a (toNat (i64.wrap (b - 1)))).an,(aP.at a (toNat b)))) fun v3=>(cond (!v3) (ret (b:Int)) (J (.p0 a (i64.wrap (b+1))))))))) (J (.p0 a (i64.wrap (b+1)))))) (ret ((-1):Int)))
def start (J:Pt->aH)(x0:aC):aH:=J (.p0 x0 0)
def live:Nat->Live:=fun i=>match i with | 2=>[(0,none),(3,none)] | _=>[]
def md (a0:List aa):Int:=(dR (S:=Unit) (β:=Int) (fun (i1:Nat) (y1:aa) (s3:Unit)=>(cond ((i1:Int)==0) (cond (!(Z58.md (a0.getD 0 aa.zero))) (.inr ((i1:Int):Int)) (cond (decide ((i1:Int)>0)) (cond (!(Z67.md ((a0.getD (toNat (i64.wrap ((i1:Int) - 1))) aa.zero).an) y1)) (.inr ((i1:Int):Int)) (.inl ())) (.inl ()))) (cond (decide ((i1:Int)>0)) (cond (!(Z67.md ((a0.getD (toNat (i64.wrap ((i1:Int) - 1))) aa.zero).an) y1)) (.inr ((i1:Int):Int)) (.inl ())) (.inl ())))) (fun (s3:Unit)=>((-1):Int)) 0 a0 ())
def gd (a0:List aa):Prop:=(bM (2^21) (fun y:aa=>aa.Sm (2^21) y) a0)
def R:=RR gd md
def aj {a0}(h:gd a0):R (a0.map aa.row)=some (md a0):=aO (a:=a0) h
def aW:=CN [pL 141] oI RT.dec R
def bw (a0)(hg:gd a0):∃n,start (iter step n) (a0.map aa.row)=ret (md a0):=by
 unfold gd at hg
 have H0:=hg
 unfold start md
 try simp only [SS]
 have Bh2:a0.length<=maxLen:=(by
   have:=(H0).1
   try simp only [maxLen] at *
   omega)
 refine ex_eq (out:=ret) (cU (z:=aa.zero)) ?_
 refine dM (p:=Pt.p0 (a0.map aa.row) 0) fz ?_
 refine cm (pt:=fun (i1:Nat) (s3:Unit)=>Pt.p0 (a0.map aa.row) (i1:Int)) (s:=(():Unit)) (out:=ret) (fun _ _=>True) (fun J i1 s3 h2 hih2=>?_) (fun s3 hih2=>?_) trivial
 ·simp only [step,SS]
  have bb_:=Bh2
  simp only [maxLen] at bb_
  have:=(H0).1
  refine bz.yes (by apply decide_eq_true;omega) ?_
  refine bz.bif (fun c4=>?_) (fun c4=>?_)
  ·have dc4:=c4
   try simp only [DC] at dc4
   refine bz.yes (have:=(H0).1;dt) ?_
   refine cr (Z58.aj (bM.getD (z:=aa.zero) H0 (by first | assumption | omega | (simp (disch:=omega) only [wi];omega) | (simp;omega)))) ?_
   refine bz.bif (fun c5=>?_) (fun c5=>?_)
   ·refine bz.inr ?_
    all_goals exact fz
   ·have dc5:=c5
    try simp only [DC] at dc5
    refine bz.bif (fun c6=>?_) (fun c6=>?_)
    ·have dc6:=c6
     try simp only [DC] at dc6
     refine bz.yes dt ?_
     refine bz.yes (have:=(H0).1;dt) ?_
     refine bz.yes aJ ?_
     refine bz.yes (aN h2) ?_
     refine cr (Z67.aj ⟨(bM.getD (z:=aa.zero) H0 (by first | assumption | omega | (simp (disch:=omega) only [wi];omega) | (simp;omega))).1,(bM.getD (z:=aa.zero) H0 h2)⟩) ?_
     refine bz.bif (fun c7=>?_) (fun c7=>?_)
     ·refine bz.inr ?_
      all_goals exact fz
     ·refine bz.inl trivial ?_
      rw [aG h2 Bh2]
      all_goals exact fz
    ·refine bz.inl trivial ?_
     rw [aG h2 Bh2]
     all_goals exact fz
  ·have dc4:=c4
   try simp only [DC] at dc4
   refine bz.bif (fun c8=>?_) (fun c8=>?_)
   ·have dc8:=c8
    try simp only [DC] at dc8
    refine bz.yes dt ?_
    refine bz.yes (have:=(H0).1;dt) ?_
    refine bz.yes aJ ?_
    refine bz.yes (aN h2) ?_
    refine cr (Z67.aj ⟨(bM.getD (z:=aa.zero) H0 (by first | assumption | omega | (simp (disch:=omega) only [wi];omega) | (simp;omega))).1,(bM.getD (z:=aa.zero) H0 h2)⟩) ?_
    refine bz.bif (fun c9=>?_) (fun c9=>?_)
    ·refine bz.inr ?_
     all_goals exact fz
    ·refine bz.inl trivial ?_
     rw [aG h2 Bh2]
     all_goals exact fz
   ·refine bz.inl trivial ?_
    rw [aG h2 Bh2]
    all_goals exact fz
 ·simp only [step,SS]
  have:=(H0).1
  refine dx (by apply decide_eq_false;omega) ?_
  refine ⟨0,?_⟩
  all_goals exact fz
def af:cy 153 aW:=L1 38 pid cj cg live step start mix aF bw (.cons Z58.af (.cons Z67.af .nil)) Tryz.func153
end Z68
namespace Z69
def F (x0:aC):aH:=(call (Z41.R ((x0.length:Int),1,12)) fun v1=>(cond v1 (call (Z68.R x0) fun v2=>ret ((decide (v2<0)):Bool)) bh))
def md (a0:List aa):Bool:=(cond (Z41.md (a0.length:Int) 1 12) ((decide ((Z68.md a0)<0)):Bool) (false:Bool))
def gd (a0:List aa):Prop:=(bM (2^21) (fun y:aa=>aa.Sm (2^21) y) a0)
def R:=RR gd md
def aj {a0}(h:gd a0):R (a0.map aa.row)=some (md a0):=aO (a:=a0) h
def aW:=CN [pL 141] oB RT.dec R
def bw (a0)(hg:gd a0):F (a0.map aa.row)=ret (md a0):=by
 unfold gd at hg
 have H0:=hg
 unfold F md
 try simp only [SS]
 refine ct (Z41.aj trivial) ?_
 refine au ret (fun c1=>?_) (fun _=>rfl)
 refine ct (Z68.aj H0) ?_
 all_goals exact fz
def af:cy 121 aW:=W1 11 F mix aF bw (.cons Z41.af (.cons Z68.af .nil)) Tryz.func121
def tr {a0:List aa}(h:md a0=true):1<=a0.length/\a0.length<=12:=by simp [md,Z41.md] at h;omega
def qd {l:List aa}(h:md l=true):∀i,i<l.length->Z47.md (l.getD i aa.zero).an=true:=by
 intro i hi
 have hl:=tr h
 have h1:Z68.md l<0:=by
  unfold md at h
  cases hc:Z41.md (l.length:Int) 1 12<;>rw [hc] at h
  ·cases h
  ·simpa using h
 unfold Z68.md at h1
 have h2:=rN (z:=aa.zero) (by
  intro i x s b h
  revert h
  simp only [Bool.cond_eq_ite]
  repeat' split
  all_goals (intro h;first | (cases h;rfl) | cases h)) h1 i hi
 by_cases h0:i=0
 ·subst h0
  cases hf:Z58.md (l.getD 0 aa.zero)
  ·rw [hf] at h2;cases h2
  ·unfold Z58.md at hf
   cases hh:Z47.md (l.getD 0 aa.zero).an
   ·rw [hh] at hf;cases hf
   ·rfl
 ·have e:((i:Int)==0)=false:=beq_eq_false_iff_ne.2 (by omega)
  have e2:decide ((i:Int)>0)=true:=by simpa using by omega
  simp only [e,e2,bq,bg] at h2
  cases hf:Z67.md ((l.getD (toNat (i64.wrap ((i:Int) - 1))) aa.zero).an) (l.getD i aa.zero)
  ·rw [hf] at h2;cases h2
  ·unfold Z67.md Z66.md at hf
   cases hh:Z47.md (l.getD i aa.zero).an
   ·rw [hh] at hf
    cases hp:Z47.md ((l.getD (toNat (i64.wrap ((i:Int) - 1))) aa.zero).an)<;>rw [hp] at hf<;>cases hf
   ·rfl
def Bh {l:List aa}(h:md l=true):∀i,i<l.length->(l.getD i aa.zero).an.bD=(l.getD 0 aa.zero).an.bD:=by
 have hl:=tr h
 have h1:Z68.md l<0:=by
  unfold md at h
  cases hc:Z41.md (l.length:Int) 1 12<;>rw [hc] at h
  ·cases h
  ·simpa using h
 unfold Z68.md at h1
 have h2:=rN (z:=aa.zero) (by
  intro i x s b h
  revert h
  simp only [Bool.cond_eq_ite]
  repeat' split
  all_goals (intro h;first | (cases h;rfl) | cases h)) h1
 intro i
 induction i with
 | zero=>intro _;rfl
 | succ i ih=>
  intro hi
  have h3:=h2 (i+1) hi
  have e:(((i+1:Nat):Int)==0)=false:=beq_eq_false_iff_ne.2 (by omega)
  have e2:decide (((i+1:Nat):Int)>0)=true:=by simpa using by omega
  have ei:toNat (i64.wrap (((i+1:Nat):Int) - 1))=i:=by simp (disch:=omega) only [wi];omega
  simp only [e,e2,bq,bg] at h3
  rw [ei] at h3
  cases hf:Z67.md ((l.getD i aa.zero).an) (l.getD (i+1) aa.zero)
  ·rw [hf] at h3;cases h3
  ·unfold Z67.md Z66.md at hf
   cases hz:((l.getD (i+1) aa.zero).an.bD != (l.getD i aa.zero).an.bD)
   ·rw [<-ih (by omega)];exact (by simpa using hz)
   ·rw [hz] at hf
    cases hp:Z47.md (l.getD i aa.zero).an<;>rw [hp] at hf
    ·cases hf
    ·cases hh:Z47.md (l.getD (i+1) aa.zero).an<;>rw [hh] at hf<;>cases hf
end Z69
namespace Z70
def F (x0:aC):aH:=(call (Z69.R x0) fun v1=>(cond (!v1) (ret (((⟨0,0,0,0,0,0,0,0,(⟨[],0⟩:bB),(⟨[],0⟩:bB),0,(⟨[],0⟩:bB),false⟩:bX),false):bX×Bool)) (bZ (decide ((0:Int)<=(i64.wrap ((x0.length:Int) - 1)))) (bZ (decide ((i64.wrap ((x0.length:Int) - 1))<(x0.length:Int))) (call (Z36.R ((aP.at x0 (toNat (i64.wrap ((x0.length:Int) - 1)))).an)) fun v2=>ret ((v2,true):bX×Bool))))))
def md (a0:List aa):aE×Bool:=(cond (!(Z69.md a0)) ((⟨0,0,0,0,0,0,0,0,(⟨[],0⟩:aM),(⟨[],0⟩:aM),0,(⟨[],0⟩:aM),false⟩:aE),false) (((a0.getD (toNat (i64.wrap ((a0.length:Int) - 1))) aa.zero).an),true))
def gd (a0:List aa):Prop:=(bM (2^21) (fun y:aa=>aa.Sm (2^21) y) a0)
def R:=RR gd md
def aj {a0}(h:gd a0):R (a0.map aa.row)=some ((aE.r (md a0).1),(md a0).2):=aO (a:=a0) h
def aW:=CN [pL 141] (.iH [(true,f138),(false,[fB])]) RT.dec R
def bw (a0)(hg:gd a0):F (a0.map aa.row)=ret ((aE.r (md a0).1),(md a0).2):=by
 unfold gd at hg
 have H0:=hg
 unfold F md
 try simp only [SS]
 refine ct (Z69.aj H0) ?_
 refine au (fun b:aE×Bool=>ret (((aE.r b.1),b.2):bX×Bool)) (fun c1=>?_) (fun c1=>?_)
 ·all_goals exact fz
 ·have dc1:=c1
  try simp only [DC] at dc1
  try have tc1:=Z69.tr (by simpa using c1)
  refine ak (have:=(H0).1;dt) ?_
  refine ak (have:=(H0).1;dt) ?_
  refine ct (Z36.aj (bM.getD (z:=aa.zero) H0 (by first | assumption | omega | (simp (disch:=omega) only [wi];omega) | (simp;omega))).1) ?_
  try simp only [SS]
  all_goals exact fz
def af:cy 101 aW:=W1 16 F mix aF bw (.cons Z69.af (.cons Z36.af .nil)) Tryz.func101
def head {l:List aa}(h:(md l).2=true):Z69.md l=true/\(md l).1=(l.getD (l.length - 1) aa.zero).an/\Z47.md (md l).1=true:=by
 unfold md at h ⊢
 cases hc:Z69.md l
 ·rw [hc] at h;cases h
 ·have hl:=Z69.tr hc
  have hw:toNat (i64.wrap ((l.length:Int) - 1))=l.length - 1:=by
   rw [Go.IntWalk.i64_in _ (by omega)];omega
  simp only [Bool.not_true,bq,hw]
  exact ⟨trivial,trivial,Z69.qd hc _ (by omega)⟩
end Z70
namespace Z71
def F (x0:aU):aH:=(cond (x0.bJ==1) (call (Z42.R x0.bf) fun v1=>(cond v1 (call (Z41.R (x0.bV,0,999999)) fun v2=>(cond v2 (ret (((x0.bH.length:Int)==0):Bool)) bh)) bh)) (cond (x0.bJ==2) (call (Z42.R x0.bf) fun v3=>(cond v3 (call (Z41.R (x0.bV,0,2147483646)) fun v4=>(cond v4 (ret (((x0.bH.length:Int)==0):Bool)) bh)) bh)) (cond (x0.bJ==3) (call (Z42.R x0.bf) fun v5=>(cond v5 (call (Z41.R (x0.bV,0,2147483646)) fun v6=>(cond v6 (call (Z43.R x0.bH) fun v7=>ret (v7:Bool)) bh)) bh)) bh)))
def md (a0:ah):Bool:=(cond (a0.bJ==1) (cond (Z42.md a0.bf) (cond (Z41.md a0.bV 0 999999) (((a0.bH.length:Int)==0):Bool) (false:Bool)) (false:Bool)) (cond (a0.bJ==2) (cond (Z42.md a0.bf) (cond (Z41.md a0.bV 0 2147483646) (((a0.bH.length:Int)==0):Bool) (false:Bool)) (false:Bool)) (cond (a0.bJ==3) (cond (Z42.md a0.bf) (cond (Z41.md a0.bV 0 2147483646) ((Z43.md a0.bH):Bool) (false:Bool)) (false:Bool)) (false:Bool))))
def gd (a0:ah):Prop:=(ah.Sm (2^21) a0)
def R:=RR gd md
def aj {a0}(h:gd a0):R (ah.r a0)=some (md a0):=aO (a:=a0) h
def aW:=CN [.agg qV] oB RT.dec R
def bw (a0)(hg:gd a0):F (ah.r a0)=ret (md a0):=by
 unfold gd at hg
 have H0:=hg
 unfold F md
 try simp only [SS]
 refine au ret (fun c1=>?_) (fun c1=>?_)
 ·refine ct (Z42.aj (le_trans H0.1 (by decide))) ?_
  refine au ret (fun c2=>?_) (fun _=>rfl)
  refine ct (Z41.aj trivial) ?_
  refine au ret (fun c3=>?_) (fun _=>rfl)
  all_goals exact fz
 ·refine au ret (fun c4=>?_) (fun c4=>?_)
  ·refine ct (Z42.aj (le_trans H0.1 (by decide))) ?_
   refine au ret (fun c5=>?_) (fun _=>rfl)
   refine ct (Z41.aj trivial) ?_
   refine au ret (fun c6=>?_) (fun _=>rfl)
   all_goals exact fz
  ·refine au ret (fun c7=>?_) (fun _=>rfl)
   refine ct (Z42.aj (le_trans H0.1 (by decide))) ?_
   refine au ret (fun c8=>?_) (fun _=>rfl)
   refine ct (Z41.aj trivial) ?_
   refine au ret (fun c9=>?_) (fun _=>rfl)
   refine ct (Z43.aj (H0.2.mono (by decide) (fun x hx=>(le_trans hx (by decide))))) ?_
   all_goals exact fz
def af:cy 193 aW:=W1 52 F mix aF bw (.cons Z42.af (.cons Z41.af (.cons Z43.af .nil))) Tryz.func193
end Z71
namespace Z72
def F (x0 x1:aD):aH:=(cond (Op.bytesLess x0.toList x1.toList) (ret ((-1):Int)) (cond (!((Op.bytesLess x0.toList x1.toList)||(x0.toList==x1.toList))) (ret (1:Int)) (ret (0:Int))))
def md (a0 a1:aD):Int:=(cond (Op.bytesLess a0.toList a1.toList) ((-1):Int) (cond (!((Op.bytesLess a0.toList a1.toList)||(a0.toList==a1.toList))) (1:Int) (0:Int)))
def gd (a0 a1:aD):Prop:=True
def R:=RR (p2 gd) (u2 md)
def aj {a0 a1}(h:gd a0 a1):R (a0,a1)=some (md a0 a1):=aO (a:=(a0,a1)) h
def aW:=CN [pS,pS] oI RT.dec R
def bw (a0)(a1)(hg:gd a0 a1):F a0 a1=ret (md a0 a1):=by
 unfold F md
 try simp only [SS]
 refine au ret (fun _=>rfl) (fun c1=>?_)
 refine au ret (fun _=>rfl) (fun _=>rfl)
def af:cy 198 aW:=W2 13 F mix aF bw .nil Tryz.func198
def vals (a b:aD):md a b=-1∨md a b=0∨md a b=1:=by
 unfold md
 cases Op.bytesLess a.toList b.toList
 ·cases (!(false||(a.toList==b.toList)))<;>simp
 ·simp
def lt (a b:aD):decide (md a b<0)=(md a b == -1):=by
 rcases vals a b with h | h | h<;>rw [h]<;>rfl
def gt (a b:aD):decide (md a b>0)=(md a b==1):=by
 rcases vals a b with h | h | h<;>rw [h]<;>rfl
def bl:∀a b:List UInt8,(Op.bytesLess a b||a==b)=!(Op.bytesLess b a)
 | [],[]=>by simp [Op.bytesLess]
 | [],_::_=>by simp [Op.bytesLess]
 | _::_,[]=>by simp [Op.bytesLess]
 | a::xs,b::ys=>by
  have ih:=bl xs ys
  simp only [Op.bytesLess]
  by_cases h1:a<b
  ·have h2:¬b<a:=UInt8.not_lt.2 (UInt8.le_of_lt h1)
   have h3:¬b=a:=fun h=>by subst h;exact UInt8.lt_irrefl _ h1
   simp [h1,h2,h3]
  ·by_cases h2:a=b
   ·subst h2
    have hr:¬a<a:=UInt8.lt_irrefl a
    simp only [hr,decide_false,Bool.false_or,beq_self_eq_true,Bool.true_and,List.cons_beq_cons]
    exact ih
   ·have h3:b<a:=by
     rcases UInt8.lt_or_lt_of_ne h2 with h | h
     ·exact (h1 h).elim
     ·exact h
    simp [h1,h2,h3,List.cons_beq_cons]
def swap (a b:aD):decide (md a b<=0)=(md b a != -1):=by
 unfold md
 rw [bl a.toList b.toList,bl b.toList a.toList]
 have h:=bl a.toList b.toList
 cases h1:Op.bytesLess a.toList b.toList<;>cases h2:Op.bytesLess b.toList a.toList<;>rw [h1,h2] at h<;>simp at h ⊢
end Z72
namespace Z73
inductive Pt where
 | p0 (a:aC) (b:Int)
def pid:Pt->Nat
 | .p0 ..=>2
def cj:Pt->List V
 | .p0 a b=>[.sl none 57 a,.int .i64 b]
def cg:Pt->List aV
 | .p0 a b=>[]
def step (J:Pt->aH):Pt->aH
 | .p0 a b=>(cond (decide (b<(a.length:Int))) (m2 b (a.length:Int) (call (Z71.R (aU.at a (toNat b))) fun v1=>(cond (!v1) bh (cond (decide (b>0)) (bZ (decide ((0:Int)<=(i64.wrap (b - 1)))) (bZ (decide ((i64.wrap (b - 1))<(a.length:Int))) (m2 b (a.length:Int) (call (Z72.R ((aU.at a (toNat (i64.wrap (b - 1)))).bf,(aU.at a (toNat b)).bf)) fun v2=>(cond (v2 != (-1)) bh (J (.p0 a (i64.wrap (b+1))))))))) (J (.p0 a (i64.wrap (b+1)))))))) (ret ((decide ((a.length:Int)<=12)):Bool)))
def start (J:Pt->aH)(x0:aC):aH:=J (.p0 x0 0)
def live:Nat->Live:=fun i=>match i with | 2=>[(0,none),(3,none)] | _=>[]
def md (a0:List ah):Bool:=(dR (S:=Unit) (β:=Bool) (fun (i1:Nat) (y1:ah) (s3:Unit)=>(cond (!(Z71.md y1)) (.inr (false:Bool)) (cond (decide ((i1:Int)>0)) (cond ((Z72.md ((a0.getD (toNat (i64.wrap ((i1:Int) - 1))) ah.zero).bf) (y1.bf)) != (-1)) (.inr (false:Bool)) (.inl ())) (.inl ())))) (fun (s3:Unit)=>((decide ((a0.length:Int)<=12)):Bool)) 0 a0 ())
def gd (a0:List ah):Prop:=(bM (2^21) (fun y:ah=>ah.Sm (2^21) y) a0)
def R:=RR gd md
def aj {a0}(h:gd a0):R (a0.map ah.row)=some (md a0):=aO (a:=a0) h
def aW:=CN [pL 57] oB RT.dec R
def bw (a0)(hg:gd a0):∃n,start (iter step n) (a0.map ah.row)=ret (md a0):=by
 unfold gd at hg
 have H0:=hg
 unfold start md
 try simp only [SS]
 have Bh2:a0.length<=maxLen:=(by
   have:=(H0).1
   try simp only [maxLen] at *
   omega)
 refine ex_eq (out:=ret) (cU (z:=ah.zero)) ?_
 refine dM (p:=Pt.p0 (a0.map ah.row) 0) fz ?_
 refine cm (pt:=fun (i1:Nat) (s3:Unit)=>Pt.p0 (a0.map ah.row) (i1:Int)) (s:=(():Unit)) (out:=ret) (fun _ _=>True) (fun J i1 s3 h2 hih2=>?_) (fun s3 hih2=>?_) trivial
 ·simp only [step,SS]
  have bb_:=Bh2
  simp only [maxLen] at bb_
  have:=(H0).1
  refine bz.yes (by apply decide_eq_true;omega) ?_
  refine bz.yes aJ ?_
  refine bz.yes (aN h2) ?_
  refine cr (Z71.aj (bM.getD (z:=ah.zero) H0 h2)) ?_
  refine bz.bif (fun _=>bz.inr rfl) (fun c4=>?_)
  have dc4:=c4
  try simp only [DC] at dc4
  refine bz.bif (fun c5=>?_) (fun c5=>?_)
  ·have dc5:=c5
   try simp only [DC] at dc5
   refine bz.yes dt ?_
   refine bz.yes (have:=(H0).1;dt) ?_
   refine bz.yes aJ ?_
   refine bz.yes (aN h2) ?_
   refine cr (Z72.aj trivial) ?_
   refine bz.bif (fun _=>bz.inr rfl) (fun c6=>?_)
   refine bz.inl trivial ?_
   rw [aG h2 Bh2]
   all_goals exact fz
  ·refine bz.inl trivial ?_
   rw [aG h2 Bh2]
   all_goals exact fz
 ·simp only [step,SS]
  have:=(H0).1
  refine dx (by apply decide_eq_false;omega) ?_
  refine ⟨0,?_⟩
  all_goals exact fz
def af:cy 203 aW:=L1 38 pid cj cg live step start mix aF bw (.cons Z71.af (.cons Z72.af .nil)) Tryz.func203
end Z73
namespace Z74
inductive Pt where
 | p0 (a:aC) (b:Int) (c:aC)
def pid:Pt->Nat
 | .p0 ..=>3
def cj:Pt->List V
 | .p0 a b c=>[.sl none 5 a,.own 0,.int .i64 b]
def cg:Pt->List aV
 | .p0 a b c=>[.row 3 c]
def step (J:Pt->aH):Pt->aH
 | .p0 a b c=>(cond (decide (b<(a.length:Int))) (m2 b (a.length:Int) (bZ (eP (((c.length:Int)+1)*8)) (J (.p0 a (i64.wrap (b+1)) (c++[[L.int (i64.wrap (jh a (toNat b)))]]))))) (ret (c:aC)))
def start (J:Pt->aH)(x0:aC):aH:=J (.p0 x0 0 [[L.int (x0.length:Int)]])
def live:Nat->Live:=fun i=>match i with | 3=>[(0,none),(3,none),(4,none)] | _=>[]
def md (a0:List Int):List Int:=([(a0.length:Int)]++a0.map (fun (y1:Int)=>(i64.wrap y1)))
def gd (a0:List Int):Prop:=(bM (2^38) (fun y:Int=>True) a0)
def R:=RR gd md
def aj {a0}(h:gd a0):R (a0.map aZ)=some ((md a0).map aZ):=aO (a:=a0) h
def aW:=CN [pL 5] (oL 3) RT.dec R
def bw (a0)(hg:gd a0):∃n,start (iter step n) (a0.map aZ)=ret ((md a0).map aZ):=by
 unfold gd at hg
 have H0:=hg
 unfold start md
 try simp only [SS]
 have Bh2:a0.length<=maxLen:=(by
   have:=(H0).1
   try simp only [maxLen] at *
   omega)
 refine ex_eq (out:=(fun b:List Int=>ret ((b.map aZ):aC))) (lX (g:=fun (y1:Int)=>(i64.wrap y1)) (z:=0) (t:=fun (s3:List Int)=>s3) (s:=[(a0.length:Int)])) ?_
 refine dM (p:=Pt.p0 (a0.map aZ) 0 ([(a0.length:Int)].map aZ)) fz ?_
 refine cm (pt:=fun (i1:Nat) (s3:List Int)=>Pt.p0 (a0.map aZ) (i1:Int) (s3.map aZ)) (s:=([(a0.length:Int)]:List Int)) (out:=(fun b:List Int=>ret ((b.map aZ):aC))) (fun (i1:Nat) (s3:List Int)=>s3.length<=[(a0.length:Int)].length+1*i1) (fun J i1 s3 h2 hih2=>?_) (fun s3 hih2=>?_) (by simp)
 ·simp only [step,SS]
  have gr_:=hih2
  try simp only [LN] at gr_
  have:=(H0).1
  have bb_:=Bh2
  simp only [maxLen] at bb_
  have:=(H0).1
  refine bz.yes (by apply decide_eq_true;omega) ?_
  refine bz.yes aJ ?_
  refine bz.yes (aN h2) ?_
  refine bz.yes lm ?_
  refine bz.inl (by
    have g_:=hih2
    try simp only [LN] at g_ ⊢
    first | omega | (simp;done) | (simp;omega)) ?_
  rw [aG h2 Bh2]
  all_goals exact fz
 ·simp only [step,SS]
  have gr_:=hih2
  try simp only [LN] at gr_
  have:=(H0).1
  have:=(H0).1
  refine dx (by apply decide_eq_false;omega) ?_
  refine ⟨0,?_⟩
  all_goals exact fz
def af:cy 286 aW:=L1 23 pid cj cg live step start mix aF bw .nil Tryz.func286
def len (a0:List Int):(md a0).length=1+a0.length:=by simp [md];omega
end Z74
namespace Z75
def F (x0:aD):aH:=(bZ (decide ((x0.size:Int)<=140737488355328)) (call (Z74.R (ig x0)) fun v1=>ret (v1:aC)))
def md (a0:aD):List Int:=(Z74.md (iI a0))
def gd (a0:aD):Prop:=(a0.size<=(2^21))
def R:=RR gd md
def aj {a0}(h:gd a0):R a0=some ((md a0).map aZ):=aO (a:=a0) h
def aW:=CN [pS] (oL 3) RT.dec R
def bw (a0)(hg:gd a0):F a0=ret ((md a0).map aZ):=by
 unfold gd at hg
 have H0:=hg
 unfold F md
 try simp only [SS]
 refine ak (have:=H0;dt) ?_
 refine bp ((Z74.md (iI a0)).map aZ) (rq (Z74.aj (a0:=(iI a0)) ⟨(have:=gD a0;have:=H0;om),fun _ _=>trivial⟩)) ?_
 try simp only [SS]
 all_goals exact fz
def af:cy 263 aW:=W1 6 F mix aF bw (.cons Z74.af .nil) Tryz.func263
def len (a0:aD):(md a0).length=1+a0.size:=by simp [md,Z74.len,gD]
end Z75
namespace Z76
inductive Pt where
 | p0 (a:Int) (b:aU) (c:aC)
def pid:Pt->Nat
 | .p0 ..=>3
def cj:Pt->List V
 | .p0 a b c=>[.cK 0 0,.own 1,.int .i64 a]
def cg:Pt->List aV
 | .p0 a b c=>[.box [.str b.bf,.int .i64 b.bJ,.int .i64 b.bV,.sl none 9 b.bH],.row 3 c]
def step (J:Pt->aH):Pt->aH
 | .p0 a b c=>(cond (decide (a<(b.bH.length:Int))) (m2 a (b.bH.length:Int) (call (Z75.R (pR b.bH (toNat a))) fun v1=>(bZ (eP (((c.length:Int)+(v1.length:Int))*8)) (J (.p0 (i64.wrap (a+1)) b (c++v1)))))) (ret (c:aC)))
def start (J:Pt->aH)(x0:aU):aH:=(call (Z75.R x0.bf) fun v1=>(bZ (eP (((v1.length:Int)+3)*8)) (J (.p0 0 x0 (v1++[[L.int x0.bJ],[L.int x0.bV],[L.int (x0.bH.length:Int)]])))))
def live:Nat->Live:=fun i=>match i with | 3=>[(1,none),(3,none),(4,none)] | _=>[]
def md (a0:ah):List Int:=(((Z75.md a0.bf)++[a0.bJ,a0.bV,(a0.bH.length:Int)])++a0.bH.flatMap (fun (y1:aD)=>(Z75.md y1)))
def gd (a0:ah):Prop:=(ah.Sm (2^21) a0)
def R:=RR gd md
def aj {a0}(h:gd a0):R (ah.r a0)=some ((md a0).map aZ):=aO (a:=a0) h
def aW:=CN [.agg qV] (oL 3) RT.dec R
def bw (a0)(hg:gd a0):∃n,start (iter step n) (ah.r a0)=ret ((md a0).map aZ):=by
 unfold gd at hg
 have H0:=hg
 unfold start md
 try simp only [SS]
 refine cx (Z75.aj H0.1) ?_
 try simp only [SS]
 refine dH (have:=Z75.len a0.bf;have:=H0.1;lm) ?_
 have Bh2:a0.bH.length<=maxLen:=(by
   have:=(H0.2).1
   try simp only [maxLen] at *
   omega)
 refine ex_eq (out:=(fun b:List Int=>ret ((b.map aZ):aC))) (qO (g:=fun (y1:aD)=>(Z75.md y1)) (z:=⟨#[]⟩) (t:=fun (s3:List Int)=>s3) (s:=((Z75.md a0.bf)++[a0.bJ,a0.bV,(a0.bH.length:Int)]))) ?_
 refine dM (p:=Pt.p0 0 (ah.r a0) (((Z75.md a0.bf)++[a0.bJ,a0.bV,(a0.bH.length:Int)]).map aZ)) fz ?_
 refine cm (pt:=fun (i1:Nat) (s3:List Int)=>Pt.p0 (i1:Int) (ah.r a0) (s3.map aZ)) (s:=(((Z75.md a0.bf)++[a0.bJ,a0.bV,(a0.bH.length:Int)]):List Int)) (out:=(fun b:List Int=>ret ((b.map aZ):aC))) (fun (i1:Nat) (s3:List Int)=>s3.length<=4+a0.bf.size+i1*(2^21+1)) (fun J i1 s3 h2 hih2=>?_) (fun s3 hih2=>?_) (by
   have:=(H0.2).1
   have:=Z75.len a0.bf
   have:=H0.1
   try simp only [LN]
   try simp
   try omega)
 ·simp only [step,SS]
  have gr_:=hih2
  try simp only [LN] at gr_
  have:=H0.1
  have bb_:=Bh2
  simp only [maxLen] at bb_
  have:=(H0.2).1
  refine bz.yes (by apply decide_eq_true;omega) ?_
  refine bz.yes aJ ?_
  refine bz.yes (aN h2) ?_
  refine cr (Z75.aj (bM.getD (z:=⟨#[]⟩) H0.2 h2)) ?_
  try simp only [SS]
  refine bz.yes (have:=Z75.len (a0.bH.getD i1 ⟨#[]⟩);have:=(bM.getD (z:=⟨#[]⟩) H0.2 h2);lm) ?_
  refine bz.inl (by
    have:=Z75.len (a0.bH.getD i1 ⟨#[]⟩)
    have:=(bM.getD (z:=⟨#[]⟩) H0.2 h2)
    have g_:=hih2
    try simp only [LN] at g_ ⊢
    first | omega | (simp;done) | (simp;omega)) ?_
  rw [aG h2 Bh2]
  all_goals exact fz
 ·simp only [step,SS]
  have gr_:=hih2
  try simp only [LN] at gr_
  have:=H0.1
  have:=(H0.2).1
  refine dx (by apply decide_eq_false;omega) ?_
  refine ⟨0,?_⟩
  all_goals exact fz
def af:cy 233 aW:=L1 33 pid cj cg live step start mix aF bw (.cons Z75.af .nil) Tryz.func233
def gb {a0:ah}(hg:gd a0):bM (2^43 - 1) (fun y:Int=>True) (md a0):=by
 unfold gd at hg
 refine ⟨?_,fun _ _=>trivial⟩
 unfold md
 have h1:=lG (xs:=a0.bH) (g:=fun y=>Z75.md y) (n:=2^21+1) (fun x hx=>by rw [Z75.len];have:=hg.2.2 x hx;omega)
 have h2:=hg.1
 have h3:=hg.2.1
 have h4:=Z75.len a0.bf
 simp only [List.length_append,List.length_cons,List.length_nil]
 omega
end Z76
namespace Z77
def F (x0:aU):aH:=(call (Z76.R x0) fun v1=>(bZ (eP (((1:Int)+(v1.length:Int))*8)) (call (Z50.R ([[L.int 227]]++v1)) fun v2=>ret (v2:Int))))
def md (a0:ah):Int:=((Z50.md ([227]++(Z76.md a0))):Int)
def gd (a0:ah):Prop:=(ah.Sm (2^21) a0)
def R:=RR gd md
def aj {a0}(h:gd a0):R (ah.r a0)=some (md a0):=aO (a:=a0) h
def aW:=CN [.agg qV] oI RT.dec R
def bw (a0)(hg:gd a0):F (ah.r a0)=ret (md a0):=by
 unfold gd at hg
 have H0:=hg
 unfold F md
 try simp only [SS]
 refine ct (Z76.aj H0) ?_
 try simp only [SS]
 refine ak (have:=((Z76.gb (a0:=a0) H0)).1;lm) ?_
 refine bp (Z50.md ([227]++(Z76.md a0))) (rq (Z50.aj (a0:=([227]++(Z76.md a0))) ⟨(have:=((Z76.gb (a0:=a0) H0)).1;om),fun _ _=>trivial⟩)) ?_
 all_goals exact fz
def af:cy 192 aW:=W1 8 F mix aF bw (.cons Z76.af (.cons Z50.af .nil)) Tryz.func192
end Z77
namespace Z78
inductive Pt where
 | p0 (a:aC) (b:Int) (c:aC)
def pid:Pt->Nat
 | .p0 ..=>3
def cj:Pt->List V
 | .p0 a b c=>[.sl none 57 a,.own 0,.int .i64 b]
def cg:Pt->List aV
 | .p0 a b c=>[.row 3 c]
def step (J:Pt->aH):Pt->aH
 | .p0 a b c=>(cond (decide (b<(a.length:Int))) (m2 b (a.length:Int) (call (Z77.R (aU.at a (toNat b))) fun v1=>(bZ (eP (((c.length:Int)+1)*8)) (J (.p0 a (i64.wrap (b+1)) (c++[[L.int v1]])))))) (ret (c:aC)))
def start (J:Pt->aH)(x0:aC):aH:=J (.p0 x0 0 [])
def live:Nat->Live:=fun i=>match i with | 3=>[(0,none),(3,some 3),(4,none)] | _=>[]
def md (a0:List ah):List Int:=(a0.map (fun (y1:ah)=>(Z77.md y1)))
def gd (a0:List ah):Prop:=(bM (2^21) (fun y:ah=>ah.Sm (2^21) y) a0)
def R:=RR gd md
def aj {a0}(h:gd a0):R (a0.map ah.row)=some ((md a0).map aZ):=aO (a:=a0) h
def aW:=CN [pL 57] (oL 3) RT.dec R
def bw (a0)(hg:gd a0):∃n,start (iter step n) (a0.map ah.row)=ret ((md a0).map aZ):=by
 unfold gd at hg
 have H0:=hg
 unfold start md
 try simp only [SS]
 have Bh2:a0.length<=maxLen:=(by
   have:=(H0).1
   try simp only [maxLen] at *
   omega)
 refine ex_eq (out:=(fun b:List Int=>ret ((b.map aZ):aC))) (mS (g:=fun (y1:ah)=>(Z77.md y1)) (z:=ah.zero) (t:=fun (s3:List Int)=>s3)) ?_
 refine dM (p:=Pt.p0 (a0.map ah.row) 0 ([].map aZ)) fz ?_
 refine cm (pt:=fun (i1:Nat) (s3:List Int)=>Pt.p0 (a0.map ah.row) (i1:Int) (s3.map aZ)) (s:=([]:List Int)) (out:=(fun b:List Int=>ret ((b.map aZ):aC))) (fun (i1:Nat) (s3:List Int)=>s3.length<=([]:List Int).length+1*i1) (fun J i1 s3 h2 hih2=>?_) (fun s3 hih2=>?_) (by simp)
 ·simp only [step,SS]
  have gr_:=hih2
  try simp only [LN] at gr_
  have bb_:=Bh2
  simp only [maxLen] at bb_
  have:=(H0).1
  refine bz.yes (by apply decide_eq_true;omega) ?_
  refine bz.yes aJ ?_
  refine bz.yes (aN h2) ?_
  refine cr (Z77.aj (bM.getD (z:=ah.zero) H0 h2)) ?_
  refine bz.yes lm ?_
  refine bz.inl (by
    have g_:=hih2
    try simp only [LN] at g_ ⊢
    first | omega | (simp;done) | (simp;omega)) ?_
  rw [aG h2 Bh2]
  all_goals exact fz
 ·simp only [step,SS]
  have gr_:=hih2
  try simp only [LN] at gr_
  have:=(H0).1
  refine dx (by apply decide_eq_false;omega) ?_
  refine ⟨0,?_⟩
  all_goals exact fz
def af:cy 202 aW:=L1 21 pid cj cg live step start mix aF bw (.cons Z77.af .nil) Tryz.func202
def len (a0:List ah):(md a0).length=a0.length:=by simp [md]
end Z78
namespace Z79
def F (x0 x1:Int):aH:=(call (Z50.R [[L.int 229],[L.int x0],[L.int x1]]) fun v1=>ret (v1:Int))
def md (a0 a1:Int):Int:=((Z50.md [229,a0,a1]):Int)
def gd (a0 a1:Int):Prop:=True
def R:=RR (p2 gd) (u2 md)
def aj {a0 a1}(h:gd a0 a1):R (a0,a1)=some (md a0 a1):=aO (a:=(a0,a1)) h
def aW:=CN [pI,pI] oI RT.dec R
def bw (a0)(a1)(hg:gd a0 a1):F a0 a1=ret (md a0 a1):=by
 unfold F md
 try simp only [SS]
 refine bp (Z50.md [229,a0,a1]) (rq (Z50.aj (a0:=[229,a0,a1]) ⟨(om),fun _ _=>trivial⟩)) ?_
 all_goals exact fz
def af:cy 231 aW:=W2 9 F mix aF bw (.cons Z50.af .nil) Tryz.func231
end Z79
namespace Z80
inductive Pt where
 | p0 (a:aC) (b:Int) (c:aC)
def pid:Pt->Nat
 | .p0 ..=>3
def cj:Pt->List V
 | .p0 a b c=>[.sl none 3 a,.own 0,.int .i64 b]
def cg:Pt->List aV
 | .p0 a b c=>[.row 3 c]
def step (J:Pt->aH):Pt->aH
 | .p0 a b c=>(cond (decide (b<(a.length:Int))) (cond (decide ((i64.wrap (b+1))<(a.length:Int))) (m2 b (a.length:Int) (bZ (decide ((0:Int)<=(i64.wrap (b+1)))) (bZ (decide ((i64.wrap (b+1))<(a.length:Int))) (call (Z79.R ((jh a (toNat b)),(jh a (toNat (i64.wrap (b+1)))))) fun v1=>(bZ (eP (((c.length:Int)+1)*8)) (J (.p0 a (i64.wrap (b+2)) (c++[[L.int v1]])))))))) (m2 b (a.length:Int) (bZ (eP (((c.length:Int)+1)*8)) (J (.p0 a (i64.wrap (b+2)) (c++[[L.int (jh a (toNat b))]])))))) (ret (c:aC)))
def start (J:Pt->aH)(x0:aC):aH:=J (.p0 x0 0 [])
def live:Nat->Live:=fun i=>match i with | 3=>[(0,none),(3,some 3),(4,none)] | _=>[]
def up:List Int->List Int
 | []=>[]
 | [a]=>[a]
 | a::b::r=>Z79.md a b::up r
def jS:∀l:List Int,(up l).length=(l.length+1) / 2
 | []=>by simp [up]
 | [_]=>by simp [up]
 | _::_::r=>by
  have:=jS r
  simp only [up,List.length_cons]
  omega
def md (a0:List Int):List Int:=up a0
def gd (a0:List Int):Prop:=bM (2^38) (fun y:Int=>True) a0
def R:=RR gd md
def aj {a0}(h:gd a0):R (a0.map aZ)=some ((md a0).map aZ):=aO (a:=a0) h
def aW:=CN [pL 3] (oL 3) RT.dec R
def bw (a0)(hg:gd a0):∃n,start (iter step n) (a0.map aZ)=ret ((md a0).map aZ):=by
 obtain ⟨H1,_⟩:=hg
 have key:∀(k i:Nat) (c:List Int),i+k=a0.length->c.length<=i->∃n,iter step n (Pt.p0 (a0.map aZ) (i:Int) (c.map aZ))=ret ((c++up (a0.drop i)).map aZ:aC):=by
  intro k
  induction k using Nat.strongRecOn with
  | _ k ih=>
  intro i c hi hc
  match k,hi,ih with
  | 0,hi,_=>
   refine ⟨1,?_⟩
   show step (iter step 0) (Pt.p0 _ _ _)=_
   simp only [step,List.length_map]
   refine cL (decide_eq_false (by omega)) ?_
   rw [List.drop_eq_nil_of_le (by omega)]
   simp only [up,List.append_nil]
  | 1,hi,ih=>
   obtain ⟨n,hn⟩:=ih 0 (by omega) (i+1) (c++[a0.getD i 0]) (by omega) (by simp;omega)
   have h2:∃n,iter step n (Pt.p0 (a0.map aZ) (i64.wrap ((i:Int)+2)) ((c++[a0.getD i 0]).map aZ))=ret ((c++[a0.getD i 0]).map aZ:aC):=by
    refine ⟨1,?_⟩
    show step (iter step 0) (Pt.p0 _ _ _)=_
    simp only [step,List.length_map]
    refine cL (decide_eq_false ?_) rfl
    rw [Go.IntWalk.i64_in _ (by omega)];omega
   obtain ⟨n,hn⟩:=h2
   refine ⟨n+1,?_⟩
   show step (iter step n) (Pt.p0 _ _ _)=_
   simp only [step,List.length_map,cE,gM]
   refine ak (decide_eq_true (by omega)) (cL (decide_eq_false ?_) (ak (decide_eq_true (by omega)) (ak (decide_eq_true (by omega)) (ak (iy (by omega)) ?_))))
   ·rw [Go.IntWalk.i64_in _ (by omega)];omega
   ·rw [List.map_append] at hn
    refine Eq.trans hn ?_
    rw [List.drop_eq_getElem_cons (by omega),List.drop_eq_nil_of_le (by omega),eF (by omega:i<a0.length)]
    simp only [up,List.map_append]
  | k+2,hi,ih=>
   obtain ⟨n,hn⟩:=ih k (by omega) (i+2) (c++[Z79.md (a0.getD i 0) (a0.getD (i+1) 0)]) (by omega) (by simp;omega)
   refine ⟨n+1,?_⟩
   show step (iter step n) (Pt.p0 _ _ _)=_
   have w1:i64.wrap ((i:Int)+1)=((i+1:Nat):Int):=by rw [Go.IntWalk.i64_in _ (by omega)];omega
   have w2:i64.wrap ((i:Int)+2)=((i+2:Nat):Int):=by rw [Go.IntWalk.i64_in _ (by omega)];omega
   simp only [step,List.length_map,w1,w2,cE,gM]
   refine ak (decide_eq_true (by omega)) (ak (decide_eq_true (by omega)) (ak (decide_eq_true (by omega)) (ak (decide_eq_true (by omega)) (ak (decide_eq_true (by omega)) (ak (decide_eq_true (by omega)) ?_)))))
   refine bp (Z79.md (a0.getD i 0) (a0.getD (i+1) 0)) (Z79.aj trivial) (ak (iy (by omega)) ?_)
   rw [List.map_append] at hn
   refine Eq.trans hn ?_
   rw [List.drop_eq_getElem_cons (by omega:i<a0.length),List.drop_eq_getElem_cons (by omega:i+1<a0.length),eF (by omega:i<a0.length),eF (by omega:i+1<a0.length)]
   simp only [up,List.append_assoc,List.cons_append,List.nil_append]
 have:=key a0.length 0 [] (by omega) (by simp)
 unfold start md
 simpa using this
def af:cy 236 aW:=L1 38 pid cj cg live step start mix aF bw (.cons Z79.af .nil) Tryz.func236
end Z80
namespace Z81
inductive Pt where
 | p0 (a:aC)
 | p1 (a:aC)
def pid:Pt->Nat
 | .p0 ..=>4
 | .p1 ..=>4
def cj:Pt->List V
 | .p0 a=>[.sl none 3 a]
 | .p1 a=>[.own 0]
def cg:Pt->List aV
 | .p0 a=>[]
 | .p1 a=>[.row 3 a]
def step (J:Pt->aH):Pt->aH
 | .p0 a=>(cond (decide ((a.length:Int)>1)) (call (Z80.R a) fun v1=>J (.p1 v1)) (bZ (decide ((0:Int)<(a.length:Int))) (ret ((jh a 0):Int))))
 | .p1 a=>(cond (decide ((a.length:Int)>1)) (call (Z80.R a) fun v1=>J (.p1 v1)) (bZ (decide ((0:Int)<(a.length:Int))) (ret ((jh a 0):Int))))
def start (J:Pt->aH)(x0:aC):aH:=(cond ((x0.length:Int)==0) (call (Z50.R [[L.int 229]]) fun v1=>ret (v1:Int)) (J (.p0 x0)))
def live:Nat->Live:=fun i=>match i with | 4=>[(3,none)] | _=>[]
def top:Nat->List Int->Int
 | 0,l=>l.getD 0 0
 | k+1,l=>if l.length>1 then top k (Z80.up l) else l.getD 0 0
def md (a0:List Int):Int:=(if a0.length=0 then Z50.md [229] else top a0.length a0)
def gd (a0:List Int):Prop:=bM (2^38) (fun y:Int=>True) a0
def R:=RR gd md
def aj {a0}(h:gd a0):R (a0.map aZ)=some (md a0):=aO (a:=a0) h
def aW:=CN [pL 3] oI RT.dec R
def bw (a0)(hg:gd a0):∃n,start (iter step n) (a0.map aZ)=ret (md a0):=by
 have one:∀(l:List Int) (r:Int) (n:Nat),bM (2^38) (fun y:Int=>True) l->0<l.length->(if l.length>1 then iter step n (Pt.p1 ((Z80.up l).map aZ))=ret r else ret (l.getD 0 0:Int)=ret r)->step (iter step n) (Pt.p0 (l.map aZ))=ret r/\step (iter step n) (Pt.p1 (l.map aZ))=ret r:=by
  intro l r n hl hp h
  simp only [step,List.length_map,gM]
  by_cases h1:l.length>1
  ·rw [if_pos h1] at h
   have hx:∀y:aH,(cond (decide ((l.length:Int)>1)) (call (Z80.R (l.map aZ)) (fun v1=>iter step n (Pt.p1 v1))) y)=ret r:=fun y=>
    ak (decide_eq_true (by omega)) (bp ((Z80.up l).map aZ) (Z80.aj hl) h)
   exact ⟨hx _,hx _⟩
  ·rw [if_neg h1] at h
   have hx:∀y:aH,(cond (decide ((l.length:Int)>1)) y (cond (decide ((0:Int)<(l.length:Int))) (ret (l.getD 0 0:Int)) none))=ret r:=fun y=>
    cL (decide_eq_false (by omega)) (ak (decide_eq_true (by omega)) h)
   exact ⟨hx _,hx _⟩
 have key:∀(k:Nat) (l:List Int),bM (2^38) (fun y:Int=>True) l->0<l.length->l.length<=k+1->∃n,step (iter step n) (Pt.p0 (l.map aZ))=ret (top k l)/\step (iter step n) (Pt.p1 (l.map aZ))=ret (top k l):=by
  intro k
  induction k with
  | zero=>
   intro l hl hp hk
   exact ⟨0,one l _ 0 hl hp (by rw [if_neg (by omega)];rfl)⟩
  | succ k ih=>
   intro l hl hp hk
   by_cases h1:l.length>1
   ·have hu:=Z80.jS l
    have hl1:=hl.1
    obtain ⟨n,_,hn⟩:=ih (Z80.up l) ⟨by omega,fun _ _=>trivial⟩ (by omega) (by omega)
    refine ⟨n+1,one l _ (n+1) hl hp ?_⟩
    rw [if_pos h1]
    refine Eq.trans hn ?_
    unfold top
    rw [if_pos h1]
    cases k<;>rfl
   ·refine ⟨0,one l _ 0 hl hp ?_⟩
    rw [if_neg h1]
    unfold top
    rw [if_neg h1]
 unfold md
 unfold start
 simp only [List.length_map]
 by_cases h0:a0.length=0
 ·have e:((a0.length:Int)==0)=true:=by simpa using List.length_eq_zero_iff.1 h0
  refine ⟨0,?_⟩
  rw [e]
  refine bp (Z50.md [229]) (Z50.aj (a0:=[229]) ⟨by decide,fun _ _=>trivial⟩) ?_
  rw [if_pos h0]
 ·have e:((a0.length:Int)==0)=false:=beq_eq_false_iff_ne.2 (by omega)
  obtain ⟨n,hn,_⟩:=key a0.length a0 hg (by omega) (by omega)
  refine ⟨n+1,?_⟩
  rw [e,if_neg h0]
  exact hn
def af:cy 235 aW:=L1 18 pid cj cg live step start mix aF bw (.cons Z50.af (.cons Z80.af .nil)) Tryz.func235
end Z81
namespace Z82
def F (x0 x1:Int):aH:=(call (Z50.R [[L.int 231],[L.int x0],[L.int x1]]) fun v1=>ret (v1:Int))
def md (a0 a1:Int):Int:=((Z50.md [231,a0,a1]):Int)
def gd (a0 a1:Int):Prop:=True
def R:=RR (p2 gd) (u2 md)
def aj {a0 a1}(h:gd a0 a1):R (a0,a1)=some (md a0 a1):=aO (a:=(a0,a1)) h
def aW:=CN [pI,pI] oI RT.dec R
def bw (a0)(a1)(hg:gd a0 a1):F a0 a1=ret (md a0 a1):=by
 unfold F md
 try simp only [SS]
 refine bp (Z50.md [231,a0,a1]) (rq (Z50.aj (a0:=[231,a0,a1]) ⟨(om),fun _ _=>trivial⟩)) ?_
 all_goals exact fz
def af:cy 194 aW:=W2 9 F mix aF bw (.cons Z50.af .nil) Tryz.func194
end Z82
namespace Z83
def F (x0:aC):aH:=(call (Z78.R x0) fun v1=>(call (Z81.R v1) fun v2=>(call (Z82.R ((x0.length:Int),v2)) fun v3=>ret (v3:Int))))
def md (a0:List ah):Int:=((Z82.md (a0.length:Int) (Z81.md (Z78.md a0))):Int)
def gd (a0:List ah):Prop:=(bM (2^21) (fun y:ah=>ah.Sm (2^21) y) a0)
def R:=RR gd md
def aj {a0}(h:gd a0):R (a0.map ah.row)=some (md a0):=aO (a:=a0) h
def aW:=CN [pL 57] oI RT.dec R
def bw (a0)(hg:gd a0):F (a0.map ah.row)=ret (md a0):=by
 unfold gd at hg
 have H0:=hg
 unfold F md
 try simp only [SS]
 refine ct (Z78.aj H0) ?_
 try simp only [SS]
 refine ct (Z81.aj ⟨(have:=Z78.len a0;have:=(H0).1;om),fun _ _=>trivial⟩) ?_
 refine ct (Z82.aj trivial) ?_
 all_goals exact fz
def af:cy 197 aW:=W1 9 F mix aF bw (.cons Z78.af (.cons Z81.af (.cons Z82.af .nil))) Tryz.func197
end Z83
namespace Z84
def F (x0:Int)(x1:aC):aH:=(call (Z73.R x1) fun v1=>(cond v1 (call (Z83.R x1) fun v2=>ret ((v2==x0):Bool)) bh))
def md (a0:Int)(a1:List ah):Bool:=(cond (Z73.md a1) (((Z83.md a1)==a0):Bool) (false:Bool))
def gd (a0:Int)(a1:List ah):Prop:=(bM (2^21) (fun y:ah=>ah.Sm (2^21) y) a1)
def R:=RR (p2 gd) (u2 md)
def aj {a0 a1}(h:gd a0 a1):R (a0,(a1.map ah.row))=some (md a0 a1):=aO (a:=(a0,a1)) h
def aW:=CN [pI,pL 57] oB RT.dec R
def bw (a0)(a1)(hg:gd a0 a1):F a0 (a1.map ah.row)=ret (md a0 a1):=by
 unfold gd at hg
 have H1:=hg
 unfold F md
 try simp only [SS]
 refine ct (Z73.aj H1) ?_
 refine au ret (fun c1=>?_) (fun _=>rfl)
 refine ct (Z83.aj H1) ?_
 all_goals exact fz
def af:cy 200 aW:=W2 13 F mix aF bw (.cons Z73.af (.cons Z83.af .nil)) Tryz.func200
end Z84
namespace Z85
def F (x0:dJ):aH:=(call (Z70.R x0.aR) fun v1=>(cond v1.2 (cond (v1.1.ck==(x0.bK.length:Int)) (call (Z84.R (v1.1.cQ,x0.bK)) fun v2=>ret (v2:Bool)) bh) bh))
def md (a0:aK):Bool:=(cond ((Z70.md a0.aR).2) (cond ((Z70.md a0.aR).1.ck==(a0.bK.length:Int)) ((Z84.md ((Z70.md a0.aR).1.cQ) a0.bK):Bool) (false:Bool)) (false:Bool))
def gd (a0:aK):Prop:=(aK.Sm (2^21) a0)
def R:=RR gd md
def aj {a0}(h:gd a0):R (aK.r a0)=some (md a0):=aO (a:=a0) h
def aW:=CN [.agg sJ] oB RT.dec R
def bw (a0)(hg:gd a0):F (aK.r a0)=ret (md a0):=by
 unfold gd at hg
 have H0:=hg
 unfold F md
 try simp only [SS]
 refine ct (Z70.aj H0.1) ?_
 try simp only [SS]
 refine au ret (fun c1=>?_) (fun _=>rfl)
 refine au ret (fun c2=>?_) (fun _=>rfl)
 refine ct (Z84.aj H0.2) ?_
 all_goals exact fz
def af:cy 163 aW:=W1 27 F mix aF bw (.cons Z70.af (.cons Z84.af .nil)) Tryz.func163
end Z85
namespace Z86
def F (x0:dJ):aH:=(call (Z70.R x0.aR) fun v1=>(call (Z85.R x0) fun v2=>(cond (!v2) (ret ((-1):Int)) (ret (v1.1.bD:Int)))))
def md (a0:aK):Int:=(cond (!(Z85.md a0)) ((-1):Int) ((Z70.md a0.aR).1.bD:Int))
def gd (a0:aK):Prop:=(aK.Sm (2^21) a0)
def R:=RR gd md
def aj {a0}(h:gd a0):R (aK.r a0)=some (md a0):=aO (a:=a0) h
def aW:=CN [.agg sJ] oI RT.dec R
def bw (a0)(hg:gd a0):F (aK.r a0)=ret (md a0):=by
 unfold gd at hg
 have H0:=hg
 unfold F md
 try simp only [SS]
 refine ct (Z70.aj H0.1) ?_
 try simp only [SS]
 refine ct (Z85.aj H0) ?_
 refine au ret (fun _=>rfl) (fun c1=>?_)
 all_goals exact fz
def af:cy 162 aW:=W1 16 F mix aF bw (.cons Z70.af (.cons Z85.af .nil)) Tryz.func162
end Z86
namespace Z87
inductive Pt where
 | p0 (a b:Int) (c:cI)
def pid:Pt->Nat
 | .p0 ..=>2
def cj:Pt->List V
 | .p0 a b c=>[.int .i64 a,.cK 0 0,.int .i64 b]
def cg:Pt->List aV
 | .p0 a b c=>[.box [.sl none 155 c.bG,.int .i64 c.gF]]
def step (J:Pt->aH):Pt->aH
 | .p0 a b c=>(cond (decide (b<(c.bG.length:Int))) (m2 b (c.bG.length:Int) (call (Z86.R (dJ.at c.bG (toNat b))) fun v1=>(cond (v1==a) (cond (decide (a>=0)) (ret (b:Int)) (J (.p0 a (i64.wrap (b+1)) c))) (J (.p0 a (i64.wrap (b+1)) c))))) (ret ((-1):Int)))
def start (J:Pt->aH)(x0:cI)(x1:Int):aH:=J (.p0 x1 0 x0)
def live:Nat->Live:=fun i=>match i with | 2=>[(1,none),(2,none),(5,none)] | _=>[]
def md (a0:ay)(a1:Int):Int:=(dR (S:=Unit) (β:=Int) (fun (i1:Nat) (y1:aK) (s3:Unit)=>(cond ((Z86.md y1)==a1) (cond (decide (a1>=0)) (.inr ((i1:Int):Int)) (.inl ())) (.inl ()))) (fun (s3:Unit)=>((-1):Int)) 0 a0.bG ())
def gd (a0:ay)(a1:Int):Prop:=(ay.Sm (2^21) a0)
def R:=RR (p2 gd) (u2 md)
def aj {a0 a1}(h:gd a0 a1):R ((ay.r a0),a1)=some (md a0 a1):=aO (a:=(a0,a1)) h
def aW:=CN [.agg Be,pI] oI RT.dec R
def bw (a0)(a1)(hg:gd a0 a1):∃n,start (iter step n) (ay.r a0) a1=ret (md a0 a1):=by
 unfold gd at hg
 have H0:=hg
 unfold start md
 try simp only [SS]
 have Bh2:a0.bG.length<=maxLen:=(by
   have:=(H0).1
   try simp only [maxLen] at *
   omega)
 refine ex_eq (out:=ret) (cU (z:=aK.zero)) ?_
 refine dM (p:=Pt.p0 a1 0 (ay.r a0)) fz ?_
 refine cm (pt:=fun (i1:Nat) (s3:Unit)=>Pt.p0 a1 (i1:Int) (ay.r a0)) (s:=(():Unit)) (out:=ret) (fun _ _=>True) (fun J i1 s3 h2 hih2=>?_) (fun s3 hih2=>?_) trivial
 ·simp only [step,SS]
  have bb_:=Bh2
  simp only [maxLen] at bb_
  have:=(H0).1
  refine bz.yes (by apply decide_eq_true;omega) ?_
  refine bz.yes aJ ?_
  refine bz.yes (aN h2) ?_
  refine cr (Z86.aj (bM.getD (z:=aK.zero) H0 h2)) ?_
  refine bz.bif (fun c4=>?_) (fun c4=>?_)
  ·refine bz.bif (fun c5=>?_) (fun c5=>?_)
   ·refine bz.inr ?_
    all_goals exact fz
   ·refine bz.inl trivial ?_
    rw [aG h2 Bh2]
    all_goals exact fz
  ·refine bz.inl trivial ?_
   rw [aG h2 Bh2]
   all_goals exact fz
 ·simp only [step,SS]
  have:=(H0).1
  refine dx (by apply decide_eq_false;omega) ?_
  refine ⟨0,?_⟩
  all_goals exact fz
def af:cy 129 aW:=L2 26 pid cj cg live step start mix aF bw (.cons Z86.af .nil) Tryz.func129
def fa (a0:ay)(a1:Int):-1<=md a0 a1/\md a0 a1<(a0.bG.length:Int):=by
 unfold md
 refine fW ?_ _ _
 all_goals
  intro i x s b h
  revert h
  simp only [Bool.cond_eq_ite]
  repeat' split
  all_goals (intro h;first | (cases h;rfl) | cases h)
end Z87
namespace Z88
inductive Pt where
 | p0 (a:aC) (b:aD) (c:Int)
def pid:Pt->Nat
 | .p0 ..=>2
def cj:Pt->List V
 | .p0 a b c=>[.sl none 57 a,.str b,.int .i64 c]
def cg:Pt->List aV
 | .p0 a b c=>[]
def step (J:Pt->aH):Pt->aH
 | .p0 a b c=>(cond (decide (c<(a.length:Int))) (m2 c (a.length:Int) (cond ((aU.at a (toNat c)).bf==b) (ret (c:Int)) (J (.p0 a b (i64.wrap (c+1)))))) (ret ((-1):Int)))
def start (J:Pt->aH)(x0:aC)(x1:aD):aH:=J (.p0 x0 x1 0)
def live:Nat->Live:=fun i=>match i with | 2=>[(0,none),(1,none),(5,none)] | _=>[]
def md (a0:List ah)(a1:aD):Int:=(dR (S:=Unit) (β:=Int) (fun (i1:Nat) (y1:ah) (s3:Unit)=>(cond (y1.bf==a1) (.inr ((i1:Int):Int)) (.inl ()))) (fun (s3:Unit)=>((-1):Int)) 0 a0 ())
def gd (a0:List ah)(a1:aD):Prop:=(bM (2^21) (fun y:ah=>ah.Sm (2^21) y) a0)
def R:=RR (p2 gd) (u2 md)
def aj {a0 a1}(h:gd a0 a1):R ((a0.map ah.row),a1)=some (md a0 a1):=aO (a:=(a0,a1)) h
def aW:=CN [pL 57,pS] oI RT.dec R
def bw (a0)(a1)(hg:gd a0 a1):∃n,start (iter step n) (a0.map ah.row) a1=ret (md a0 a1):=by
 unfold gd at hg
 have H0:=hg
 unfold start md
 try simp only [SS]
 have Bh2:a0.length<=maxLen:=(by
   have:=(H0).1
   try simp only [maxLen] at *
   omega)
 refine ex_eq (out:=ret) (cU (z:=ah.zero)) ?_
 refine dM (p:=Pt.p0 (a0.map ah.row) a1 0) fz ?_
 refine cm (pt:=fun (i1:Nat) (s3:Unit)=>Pt.p0 (a0.map ah.row) a1 (i1:Int)) (s:=(():Unit)) (out:=ret) (fun _ _=>True) (fun J i1 s3 h2 hih2=>?_) (fun s3 hih2=>?_) trivial
 ·simp only [step,SS]
  have bb_:=Bh2
  simp only [maxLen] at bb_
  have:=(H0).1
  refine bz.yes (by apply decide_eq_true;omega) ?_
  refine bz.yes aJ ?_
  refine bz.yes (aN h2) ?_
  refine bz.bif (fun c4=>?_) (fun c4=>?_)
  ·refine bz.inr ?_
   all_goals exact fz
  ·refine bz.inl trivial ?_
   rw [aG h2 Bh2]
   all_goals exact fz
 ·simp only [step,SS]
  have:=(H0).1
  refine dx (by apply decide_eq_false;omega) ?_
  refine ⟨0,?_⟩
  all_goals exact fz
def af:cy 164 aW:=L2 20 pid cj cg live step start mix aF bw .nil Tryz.func164
def fa (a0:List ah)(a1:aD):-1<=md a0 a1/\md a0 a1<(a0.length:Int):=by
 unfold md
 refine fW ?_ _ _
 all_goals
  intro i x s b h
  revert h
  simp only [Bool.cond_eq_ite]
  repeat' split
  all_goals (intro h;first | (cases h;rfl) | cases h)
end Z88
namespace Z89
def F (x0:aU):aH:=(call (Z44.R x0.bH) fun v1=>ret ((⟨x0.bf,x0.bJ,x0.bV,v1⟩:aU):aU))
def md (a0:ah):ah:=a0
def gd (a0:ah):Prop:=(ah.Sm (2^21) a0)
def R:=RR gd md
def aj {a0}(h:gd a0):R (ah.r a0)=some (ah.r a0):=aO (a:=a0) h
def aW:=CN [.agg qV] (.agg f57) RT.dec R
def bw (a0)(hg:gd a0):F (ah.r a0)=ret (ah.r (md a0)):=by
 unfold gd at hg
 have H0:=hg
 unfold F md
 try simp only [SS]
 refine ct (Z44.aj H0.2) ?_
 try simp only [SS]
 all_goals exact fz
def af:cy 105 aW:=W1 13 F mix aF bw (.cons Z44.af .nil) Tryz.func105
end Z89
namespace Z90
inductive Pt where
 | p0 (a:Int) (b c:aC)
 | p1 (a:Int) (b c:aC)
def pid:Pt->Nat
 | .p0 ..=>5
 | .p1 ..=>5
def cj:Pt->List V
 | .p0 a b c=>[.int .i64 a,.own 0,.sl none 3 b]
 | .p1 a b c=>[.int .i64 a,.own 0,.own 1]
def cg:Pt->List aV
 | .p0 a b c=>[.row 3 c]
 | .p1 a b c=>[.row 3 b,.row 3 c]
def step (J:Pt->aH):Pt->aH
 | .p0 a b c=>(cond (decide ((b.length:Int)>1)) (cond (decide ((i64.wrap ((i64.wrap (a+1)) - (i64.wrap (2*(Int.tmod a 2)))))<(b.length:Int))) (bZ (decide ((0:Int)<=(i64.wrap ((i64.wrap (a+1)) - (i64.wrap (2*(Int.tmod a 2))))))) (bZ (decide ((i64.wrap ((i64.wrap (a+1)) - (i64.wrap (2*(Int.tmod a 2)))))<(b.length:Int))) (bZ (eP (((c.length:Int)+1)*8)) (call (Z80.R b) fun v1=>J (.p1 (i64.wrap (Int.tdiv a 2)) (c++[[L.int (jh b (toNat (i64.wrap ((i64.wrap (a+1)) - (i64.wrap (2*(Int.tmod a 2)))))))]]) v1))))) (call (Z80.R b) fun v2=>J (.p1 (i64.wrap (Int.tdiv a 2)) c v2))) (ret (c:aC)))
 | .p1 a b c=>(cond (decide ((c.length:Int)>1)) (cond (decide ((i64.wrap ((i64.wrap (a+1)) - (i64.wrap (2*(Int.tmod a 2)))))<(c.length:Int))) (bZ (decide ((0:Int)<=(i64.wrap ((i64.wrap (a+1)) - (i64.wrap (2*(Int.tmod a 2))))))) (bZ (decide ((i64.wrap ((i64.wrap (a+1)) - (i64.wrap (2*(Int.tmod a 2)))))<(c.length:Int))) (bZ (eP (((b.length:Int)+1)*8)) (call (Z80.R c) fun v1=>J (.p1 (i64.wrap (Int.tdiv a 2)) (b++[[L.int (jh c (toNat (i64.wrap ((i64.wrap (a+1)) - (i64.wrap (2*(Int.tmod a 2)))))))]]) v1))))) (call (Z80.R c) fun v2=>J (.p1 (i64.wrap (Int.tdiv a 2)) b v2))) (ret (b:aC)))
def start (J:Pt->aH)(x0:aC)(x1:Int):aH:=(call (Z41.R (x1,0,(i64.wrap ((x0.length:Int) - 1)))) fun v1=>(cond (!v1) (ret ([]:aC)) (J (.p0 x1 x0 []))))
def live:Nat->Live:=fun i=>match i with | 5=>[(1,none),(5,some 3),(6,none)] | _=>[]
def vf (i:Nat):Nat:=if i % 2=0 then i+1 else i - 1
def vi (i:Nat)(l c:List Int):List Int:=if vf i<l.length then c++[l.getD (vf i) 0] else c
def yS:Nat->Nat->List Int->List Int->List Int
 | 0,_,_,c=>c
 | k+1,i,l,c=>if l.length>1 then yS k (i / 2) (Z80.up l) (vi i l c) else c
def tA:∀(k i:Nat) (l c:List Int),(yS k i l c).length<=c.length+k
 | 0,_,_,c=>Nat.le_refl _
 | k+1,i,l,c=>by
  unfold yS
  by_cases h:l.length>1
  ·rw [if_pos h]
   have:=tA k (i / 2) (Z80.up l) (vi i l c)
   have h2:(vi i l c).length<=c.length+1:=by unfold vi;split<;>simp
   omega
  ·rw [if_neg h];omega
def half (i:Nat)(h:i<2^40):i64.wrap (Int.tdiv (i:Int) 2)=((i / 2:Nat):Int):=by
 rw [show Int.tdiv (i:Int) 2=((i / 2:Nat):Int) from rfl,wi _ (by omega)]
def Ac (i:Nat)(h:i<2^40):i64.wrap (i64.wrap ((i:Int)+1) - i64.wrap (2*Int.tmod (i:Int) 2))=((vf i:Nat):Int):=by
 rw [show Int.tmod (i:Int) 2=((i % 2:Nat):Int) from rfl,wi ((i:Int)+1) (by omega),wi (2*((i % 2:Nat):Int)) (by omega),wi _ (by omega)]
 unfold vf
 split<;>omega
def md (a0:List Int)(a1:Int):List Int:=bif Z41.md a1 0 (i64.wrap ((a0.length:Int) - 1)) then yS a0.length a1.toNat a0 [] else []
def gd (a0:List Int)(a1:Int):Prop:=bM (2^38) (fun y:Int=>True) a0
def R:=RR (p2 gd) (u2 md)
def aj {a0 a1}(h:gd a0 a1):R ((a0.map aZ),a1)=some ((md a0 a1).map aZ):=aO (a:=(a0,a1)) h
def aW:=CN [pL 3,pI] (oL 3) RT.dec R
def bw (a0)(a1)(hg:gd a0 a1):∃n,start (iter step n) (a0.map aZ) a1=ret ((md a0 a1).map aZ):=by
 have one:∀(i:Nat) (l c r:List Int) (n:Nat),bM (2^38) (fun y:Int=>True) l->i<2^40->c.length<2^40->(if l.length>1 then iter step n (Pt.p1 ((i / 2:Nat):Int) ((vi i l c).map aZ) ((Z80.up l).map aZ))=ret (r.map aZ) else c=r)->
   step (iter step n) (Pt.p0 (i:Int) (l.map aZ) (c.map aZ))=ret (r.map aZ)/\step (iter step n) (Pt.p1 (i:Int) (c.map aZ) (l.map aZ))=ret (r.map aZ):=by
  intro i l c r n hl hi hc h
  have hs:=Ac i hi
  have hd:=half i hi
  refine ⟨?_,?_⟩
  all_goals
   simp only [step,MM,List.length_map,gM,hs,hd,cE]
   by_cases h1:l.length>1
   ·rw [if_pos h1] at h
    rw [decide_eq_true (show (l.length:Int)>1 by omega),bg]
    by_cases h2:vf i<l.length
    ·rw [vi,if_pos h2,List.map_append] at h
     rw [decide_eq_true (show ((vf i:Nat):Int)<(l.length:Int) by omega),bg,decide_eq_true (show (0:Int)<=((vf i:Nat):Int) by omega),bg,bg,iy (by omega),bg]
     exact bp ((Z80.up l).map aZ) (Z80.aj hl) h
    ·rw [vi,if_neg h2] at h
     rw [decide_eq_false (show ¬((vf i:Nat):Int)<(l.length:Int) by omega),bq]
     exact bp ((Z80.up l).map aZ) (Z80.aj hl) h
   ·rw [if_neg h1] at h
    rw [decide_eq_false (show ¬(l.length:Int)>1 by omega),bq,h]
 have key:∀(k i:Nat) (l c:List Int),bM (2^38) (fun y:Int=>True) l->l.length<=k->i<2^40->c.length+k<2^40->
   ∃n,step (iter step n) (Pt.p0 (i:Int) (l.map aZ) (c.map aZ))=ret ((yS k i l c).map aZ)/\step (iter step n) (Pt.p1 (i:Int) (c.map aZ) (l.map aZ))=ret ((yS k i l c).map aZ):=by
  intro k
  induction k with
  | zero=>intro i l c hl hk hi hc;exact ⟨0,one i l c _ 0 hl hi (by omega) (by rw [if_neg (by omega)];rfl)⟩
  | succ k ih=>
   intro i l c hl hk hi hc
   unfold yS
   by_cases h1:l.length>1
   ·have hu:=Z80.jS l
    have hl1:=hl.1
    have h2:(vi i l c).length<=c.length+1:=by unfold vi;split<;>simp
    obtain ⟨n,_,hn⟩:=ih (i / 2) (Z80.up l) (vi i l c) ⟨by omega,fun _ _=>trivial⟩ (by omega) (by omega) (by omega)
    rw [if_pos h1]
    exact ⟨n+1,one i l c _ (n+1) hl hi (by omega) (by rw [if_pos h1];exact hn)⟩
   ·rw [if_neg h1]
    exact ⟨0,one i l c _ 0 hl hi (by omega) (by rw [if_neg h1])⟩
 unfold gd at hg
 unfold start md
 simp only [List.length_map]
 have hlen:=hg.1
 cases h:Z41.md a1 0 (i64.wrap ((a0.length:Int) - 1))
 ·exact ⟨0,bp false (by rw [<-h];exact Z41.aj trivial) rfl⟩
 ·have hh:=h
  rw [wi _ (by omega)] at hh
  simp [Z41.md] at hh
  obtain ⟨i,rfl⟩:=Int.eq_ofNat_of_zero_le hh.1
  obtain ⟨n,hn,_⟩:=key a0.length i a0 [] hg (Nat.le_refl _) (by omega) (by simp only [List.length_nil];omega)
  exact ⟨n+1,bp true (by rw [<-h];exact Z41.aj trivial) hn⟩
def af:cy 201 aW:=L2 42 pid cj cg live step start mix aF bw (.cons Z41.af (.cons Z80.af .nil)) Tryz.func201
def len (a0:List Int)(a1:Int):(md a0 a1).length<=a0.length:=by
 unfold md
 cases Z41.md _ 0 _
 ·exact zero_le _
 ·exact le_trans (tA _ _ _ _) (by simp)
end Z90
namespace Z91
def F (x0:aC)(x1:aD):aH:=(call (Z88.R (x0,x1)) fun v1=>(cond (decide (v1<0)) (ret (((⟨0,[]⟩:bR),false):bR×Bool)) (call (Z78.R x0) fun v2=>(call (Z90.R (v2,v1)) fun v3=>ret (((⟨v1,v3⟩:bR),true):bR×Bool)))))
def md (a0:List ah)(a1:aD):aL×Bool:=(cond (decide ((Z88.md a0 a1)<0)) ((⟨0,[]⟩:aL),false) ((⟨(Z88.md a0 a1),(Z90.md (Z78.md a0) (Z88.md a0 a1))⟩:aL),true))
def gd (a0:List ah)(a1:aD):Prop:=(bM (2^21) (fun y:ah=>ah.Sm (2^21) y) a0)
def R:=RR (p2 gd) (u2 md)
def aj {a0 a1}(h:gd a0 a1):R ((a0.map ah.row),a1)=some ((aL.r (md a0 a1).1),(md a0 a1).2):=aO (a:=(a0,a1)) h
def aW:=CN [pL 57,pS] (.iH [(true,f161),(false,[fB])]) RT.dec R
def bw (a0)(a1)(hg:gd a0 a1):F (a0.map ah.row) a1=ret ((aL.r (md a0 a1).1),(md a0 a1).2):=by
 unfold gd at hg
 have H0:=hg
 unfold F md
 try simp only [SS]
 refine ct (Z88.aj H0) ?_
 have fv1_:=Z88.fa a0 a1
 refine au (fun b:aL×Bool=>ret (((aL.r b.1),b.2):bR×Bool)) (fun c1=>?_) (fun c1=>?_)
 ·all_goals exact fz
 ·have dc1:=c1
  try simp only [DC] at dc1
  refine ct (Z78.aj H0) ?_
  try simp only [SS]
  refine ct (Z90.aj ⟨(have:=Z78.len a0;have:=(H0).1;om),fun _ _=>trivial⟩) ?_
  try simp only [SS]
  all_goals exact fz
def af:cy 165 aW:=W2 19 F mix aF bw (.cons Z88.af (.cons Z78.af (.cons Z90.af .nil))) Tryz.func165
def gb {a0:List ah}{a1:aD}(hg:gd a0 a1):aL.Sm (2^21) ((md a0 a1).1):=by
 unfold gd at hg;unfold md
 cases decide (Z88.md a0 a1<0)
 ·refine ⟨?_,fun _ _=>trivial⟩
  have h:=Z90.len (Z78.md a0) (Z88.md a0 a1)
  rw [Z78.len] at h
  exact le_trans h hg.1
 ·exact bM.nil
def sz (a0:List ah)(a1:aD):aL.size (md a0 a1).1<=a0.length:=by
 unfold aL.size md
 rw [qE]
 cases decide (Z88.md a0 a1<0)
 ·have:=Z90.len (Z78.md a0) (Z88.md a0 a1)
  rw [Z78.len] at this
  exact this
 ·exact zero_le _
end Z91
namespace Z92
inductive Pt where
 | p0 (a:aC) (b:aD) (c d:Int)
def pid:Pt->Nat
 | .p0 ..=>3
def cj:Pt->List V
 | .p0 a b c d=>[.sl none 57 a,.str b,.int .i64 c,.int .i64 d]
def cg:Pt->List aV
 | .p0 a b c d=>[]
def step (J:Pt->aH):Pt->aH
 | .p0 a b c d=>(cond (decide (d<(a.length:Int))) (m2 d (a.length:Int) (call (Z72.R ((aU.at a (toNat d)).bf,b)) fun v1=>(cond (decide (v1<0)) (J (.p0 a b (i64.wrap (c+1)) (i64.wrap (d+1)))) (J (.p0 a b c (i64.wrap (d+1))))))) (ret (c:Int)))
def start (J:Pt->aH)(x0:aC)(x1:aD):aH:=J (.p0 x0 x1 0 0)
def live:Nat->Live:=fun i=>match i with | 3=>[(0,none),(1,none),(5,none),(6,none)] | _=>[]
def md (a0:List ah)(a1:aD):Int:=(dS (S:=Int) (β:=Int) (fun (y1:ah) (s3:Int)=>(cond (decide ((Z72.md (y1.bf) a1)<0)) (.inl (i64.wrap (s3+1))) (.inl s3))) (fun (s3:Int)=>(s3:Int)) a0 0)
def gd (a0:List ah)(a1:aD):Prop:=(bM (2^21) (fun y:ah=>ah.Sm (2^21) y) a0)
def R:=RR (p2 gd) (u2 md)
def aj {a0 a1}(h:gd a0 a1):R ((a0.map ah.row),a1)=some (md a0 a1):=aO (a:=(a0,a1)) h
def aW:=CN [pL 57,pS] oI RT.dec R
def bw (a0)(a1)(hg:gd a0 a1):∃n,start (iter step n) (a0.map ah.row) a1=ret (md a0 a1):=by
 unfold gd at hg
 have H0:=hg
 unfold start md
 try simp only [SS]
 have Bh2:a0.length<=maxLen:=(by
   have:=(H0).1
   try simp only [maxLen] at *
   omega)
 refine ex_eq (out:=ret) (eC (z:=ah.zero)) ?_
 refine dM (p:=Pt.p0 (a0.map ah.row) a1 0 0) fz ?_
 refine cm (pt:=fun (i1:Nat) (s3:Int)=>Pt.p0 (a0.map ah.row) a1 s3 (i1:Int)) (s:=(0:Int)) (out:=ret) (fun _ _=>True) (fun J i1 s3 h2 hih2=>?_) (fun s3 hih2=>?_) trivial
 ·simp only [step,SS]
  have bb_:=Bh2
  simp only [maxLen] at bb_
  have:=(H0).1
  refine bz.yes (by apply decide_eq_true;omega) ?_
  refine bz.yes aJ ?_
  refine bz.yes (aN h2) ?_
  refine cr (Z72.aj trivial) ?_
  refine bz.bif (fun c4=>?_) (fun c4=>?_)
  ·refine bz.inl trivial ?_
   rw [aG h2 Bh2]
   all_goals exact fz
  ·refine bz.inl trivial ?_
   rw [aG h2 Bh2]
   all_goals exact fz
 ·simp only [step,SS]
  have:=(H0).1
  refine dx (by apply decide_eq_false;omega) ?_
  refine ⟨0,?_⟩
  all_goals exact fz
def af:cy 204 aW:=L2 24 pid cj cg live step start mix aF bw (.cons Z72.af .nil) Tryz.func204
def fa (a0:List ah)(a1:aD):a0.length<=2^21->0<=md a0 a1/\md a0 a1<=(a0.length:Int):=fun hl=>by
 have key:∀(xs:List ah) (s:Int),0<=s->s+xs.length<=2^22->0<=dS (S:=Int) (β:=Int) (fun (y1:ah) (s3:Int)=>(cond (decide ((Z72.md (y1.bf) a1)<0)) (.inl (i64.wrap (s3+1))) (.inl s3))) (fun (s3:Int)=>(s3:Int)) xs s/\dS (S:=Int) (β:=Int) (fun (y1:ah) (s3:Int)=>(cond (decide ((Z72.md (y1.bf) a1)<0)) (.inl (i64.wrap (s3+1))) (.inl s3))) (fun (s3:Int)=>(s3:Int)) xs s<=s+xs.length:=by
  intro xs
  induction xs with
  | nil=>intro s h0 h1;exact ⟨h0,by simp [dS]⟩
  | cons x xs ih=>
   intro s h0 h1
   simp only [List.length_cons] at h1 ⊢
   unfold dS
   cases decide (Z72.md x.bf a1<0)
   ·have:=ih s h0 (by omega)
    simp only [bq]
    omega
   ·have:=ih (s+1) (by omega) (by omega)
    simp only [bg]
    rw [wi _ (by omega)]
    omega
 have:=key a0 0 (Int.le_refl _) (by omega)
 unfold md
 omega
end Z92
namespace Z93
def F (x0:aC)(x1:aD):aH:=(call (Z73.R x0) fun v1=>(cond (!v1) (ret (((⟨0,(⟨(⟨#[]⟩:aD),0,0,[]⟩:aU),(⟨(⟨#[]⟩:aD),0,0,[]⟩:aU),(⟨0,[]⟩:bR),(⟨0,[]⟩:bR)⟩:dK),false):dK×Bool)) (call (Z42.R x1) fun v2=>(cond (!v2) (ret (((⟨0,(⟨(⟨#[]⟩:aD),0,0,[]⟩:aU),(⟨(⟨#[]⟩:aD),0,0,[]⟩:aU),(⟨0,[]⟩:bR),(⟨0,[]⟩:bR)⟩:dK),false):dK×Bool)) (call (Z88.R (x0,x1)) fun v3=>(cond (decide (v3>=0)) (ret (((⟨0,(⟨(⟨#[]⟩:aD),0,0,[]⟩:aU),(⟨(⟨#[]⟩:aD),0,0,[]⟩:aU),(⟨0,[]⟩:bR),(⟨0,[]⟩:bR)⟩:dK),false):dK×Bool)) (call (Z92.R (x0,x1)) fun v4=>(cond (decide (v4>0)) (bZ (decide ((0:Int)<=(i64.wrap (v4 - 1)))) (bZ (decide ((i64.wrap (v4 - 1))<(x0.length:Int))) (call (Z89.R (aU.at x0 (toNat (i64.wrap (v4 - 1))))) fun v5=>(bZ (decide ((0:Int)<=(i64.wrap (v4 - 1)))) (bZ (decide ((i64.wrap (v4 - 1))<(x0.length:Int))) (call (Z91.R (x0,(aU.at x0 (toNat (i64.wrap (v4 - 1)))).bf)) fun v6=>(cond (decide (v4<(x0.length:Int))) (m2 v4 (x0.length:Int) (call (Z89.R (aU.at x0 (toNat v4))) fun v7=>(m2 v4 (x0.length:Int) (call (Z91.R (x0,(aU.at x0 (toNat v4)).bf)) fun v8=>ret (((⟨v4,v5,v7,v6.1,v8.1⟩:dK),true):dK×Bool))))) (ret (((⟨v4,v5,(⟨(⟨#[]⟩:aD),0,0,[]⟩:aU),v6.1,(⟨0,[]⟩:bR)⟩:dK),true):dK×Bool))))))))) (cond (decide (v4<(x0.length:Int))) (m2 v4 (x0.length:Int) (call (Z89.R (aU.at x0 (toNat v4))) fun v9=>(m2 v4 (x0.length:Int) (call (Z91.R (x0,(aU.at x0 (toNat v4)).bf)) fun v10=>ret (((⟨v4,(⟨(⟨#[]⟩:aD),0,0,[]⟩:aU),v9,(⟨0,[]⟩:bR),v10.1⟩:dK),true):dK×Bool))))) (ret (((⟨v4,(⟨(⟨#[]⟩:aD),0,0,[]⟩:aU),(⟨(⟨#[]⟩:aD),0,0,[]⟩:aU),(⟨0,[]⟩:bR),(⟨0,[]⟩:bR)⟩:dK),true):dK×Bool)))))))))))
def md (a0:List ah)(a1:aD):bT×Bool:=(cond (!(Z73.md a0)) ((⟨0,(⟨((⟨#[]⟩:aD):aD),0,0,[]⟩:ah),(⟨((⟨#[]⟩:aD):aD),0,0,[]⟩:ah),(⟨0,[]⟩:aL),(⟨0,[]⟩:aL)⟩:bT),false) (cond (!(Z42.md a1)) ((⟨0,(⟨((⟨#[]⟩:aD):aD),0,0,[]⟩:ah),(⟨((⟨#[]⟩:aD):aD),0,0,[]⟩:ah),(⟨0,[]⟩:aL),(⟨0,[]⟩:aL)⟩:bT),false) (cond (decide ((Z88.md a0 a1)>=0)) ((⟨0,(⟨((⟨#[]⟩:aD):aD),0,0,[]⟩:ah),(⟨((⟨#[]⟩:aD):aD),0,0,[]⟩:ah),(⟨0,[]⟩:aL),(⟨0,[]⟩:aL)⟩:bT),false) (cond (decide ((Z92.md a0 a1)>0)) (cond (decide ((Z92.md a0 a1)<(a0.length:Int))) ((⟨(Z92.md a0 a1),(a0.getD (toNat (i64.wrap ((Z92.md a0 a1) - 1))) ah.zero),(a0.getD (toNat (Z92.md a0 a1)) ah.zero),(Z91.md a0 ((a0.getD (toNat (i64.wrap ((Z92.md a0 a1) - 1))) ah.zero).bf)).1,(Z91.md a0 ((a0.getD (toNat (Z92.md a0 a1)) ah.zero).bf)).1⟩:bT),true) ((⟨(Z92.md a0 a1),(a0.getD (toNat (i64.wrap ((Z92.md a0 a1) - 1))) ah.zero),(⟨((⟨#[]⟩:aD):aD),0,0,[]⟩:ah),(Z91.md a0 ((a0.getD (toNat (i64.wrap ((Z92.md a0 a1) - 1))) ah.zero).bf)).1,(⟨0,[]⟩:aL)⟩:bT),true)) (cond (decide ((Z92.md a0 a1)<(a0.length:Int))) ((⟨(Z92.md a0 a1),(⟨((⟨#[]⟩:aD):aD),0,0,[]⟩:ah),(a0.getD (toNat (Z92.md a0 a1)) ah.zero),(⟨0,[]⟩:aL),(Z91.md a0 ((a0.getD (toNat (Z92.md a0 a1)) ah.zero).bf)).1⟩:bT),true) ((⟨(Z92.md a0 a1),(⟨((⟨#[]⟩:aD):aD),0,0,[]⟩:ah),(⟨((⟨#[]⟩:aD):aD),0,0,[]⟩:ah),(⟨0,[]⟩:aL),(⟨0,[]⟩:aL)⟩:bT),true))))))
def gd (a0:List ah)(a1:aD):Prop:=(bM (2^21) (fun y:ah=>ah.Sm (2^21) y) a0)/\(a1.size<=(2^21))
def R:=RR (p2 gd) (u2 md)
def aj {a0 a1}(h:gd a0 a1):R ((a0.map ah.row),a1)=some ((bT.r (md a0 a1).1),(md a0 a1).2):=aO (a:=(a0,a1)) h
def aW:=CN [pL 57,pS] (.iH [(true,f163),(false,[fB])]) RT.dec R
def bw (a0)(a1)(hg:gd a0 a1):F (a0.map ah.row) a1=ret ((bT.r (md a0 a1).1),(md a0 a1).2):=by
 obtain ⟨H0,H1⟩:=hg
 unfold F md
 try simp only [SS]
 refine ct (Z73.aj H0) ?_
 refine au (fun b:bT×Bool=>ret (((bT.r b.1),b.2):dK×Bool)) (fun c1=>?_) (fun c1=>?_)
 ·all_goals exact fz
 ·have dc1:=c1
  try simp only [DC] at dc1
  refine ct (Z42.aj (le_trans H1 (by decide))) ?_
  refine au (fun b:bT×Bool=>ret (((bT.r b.1),b.2):dK×Bool)) (fun c2=>?_) (fun c2=>?_)
  ·all_goals exact fz
  ·have dc2:=c2
   try simp only [DC] at dc2
   try have tc2:=Z42.tr (by simpa using c2)
   refine ct (Z88.aj H0) ?_
   have fv3_:=Z88.fa a0 a1
   refine au (fun b:bT×Bool=>ret (((bT.r b.1),b.2):dK×Bool)) (fun c3=>?_) (fun c3=>?_)
   ·all_goals exact fz
   ·have dc3:=c3
    try simp only [DC] at dc3
    refine ct (Z92.aj H0) ?_
    have fv4_:=Z92.fa a0 a1
    refine au (fun b:bT×Bool=>ret (((bT.r b.1),b.2):dK×Bool)) (fun c4=>?_) (fun c4=>?_)
    ·have dc4:=c4
     try simp only [DC] at dc4
     refine ak (have:=(H0).1;dt) ?_
     refine ak (have:=(H0).1;have:=(H0).1;dt) ?_
     refine ct (Z89.aj (bM.getD (z:=ah.zero) H0 (by have:=(H0).1;first | assumption | omega | (simp (disch:=omega) only [wi];omega) | (simp;omega)))) ?_
     try simp only [SS]
     refine ak (have:=(H0).1;dt) ?_
     refine ak (have:=(H0).1;have:=(H0).1;dt) ?_
     refine ct (Z91.aj H0) ?_
     try simp only [SS]
     refine au (fun b:bT×Bool=>ret (((bT.r b.1),b.2):dK×Bool)) (fun c5=>?_) (fun c5=>?_)
     ·have dc5:=c5
      try simp only [DC] at dc5
      refine ak (have:=(H0).1;dt) ?_
      refine ak (have:=(H0).1;have:=(H0).1;dt) ?_
      refine ct (Z89.aj (bM.getD (z:=ah.zero) H0 (by have:=(H0).1;first | assumption | omega | (simp (disch:=omega) only [wi];omega) | (simp;omega)))) ?_
      try simp only [SS]
      refine ak (have:=(H0).1;dt) ?_
      refine ak (have:=(H0).1;have:=(H0).1;dt) ?_
      refine ct (Z91.aj H0) ?_
      try simp only [SS]
      all_goals exact fz
     ·all_goals exact fz
    ·have dc4:=c4
     try simp only [DC] at dc4
     refine au (fun b:bT×Bool=>ret (((bT.r b.1),b.2):dK×Bool)) (fun c6=>?_) (fun c6=>?_)
     ·have dc6:=c6
      try simp only [DC] at dc6
      refine ak (have:=(H0).1;dt) ?_
      refine ak (have:=(H0).1;have:=(H0).1;dt) ?_
      refine ct (Z89.aj (bM.getD (z:=ah.zero) H0 (by have:=(H0).1;first | assumption | omega | (simp (disch:=omega) only [wi];omega) | (simp;omega)))) ?_
      try simp only [SS]
      refine ak (have:=(H0).1;dt) ?_
      refine ak (have:=(H0).1;have:=(H0).1;dt) ?_
      refine ct (Z91.aj H0) ?_
      try simp only [SS]
      all_goals exact fz
     ·all_goals exact fz
def af:cy 166 aW:=W2 71 F mix aF bw (.cons Z73.af (.cons Z42.af (.cons Z88.af (.cons Z92.af (.cons Z89.af (.cons Z91.af .nil)))))) Tryz.func166
def gb {a0:List ah}{a1:aD}(hg:gd a0 a1):bT.Sm (2^21) ((md a0 a1).1):=by
 unfold gd at hg;unfold md
 have ez:ah.Sm (2^21) ⟨⟨#[]⟩,0,0,[]⟩:=⟨zero_le _,bM.nil⟩
 have pz:aL.Sm (2^21) ⟨0,[]⟩:=bM.nil
 have he:∀i,ah.Sm (2^21) (a0.getD i ah.zero):=fun i=>bM.vq hg.1 ez
 have hp:∀x,aL.Sm (2^21) (Z91.md a0 x).1:=fun x=>Z91.gb hg.1
 simp only [Bool.cond_eq_ite]
 repeat' split
 all_goals (refine ⟨?_,?_,?_,?_⟩<;>first | exact he _ | exact hp _ | exact ez | exact pz)
def sz (a0:List ah)(a1:aD):bT.size (md a0 a1).1<=4*dP (fun y:ah=>ah.size y) a0:=by
 have hl:a0.length<=dP (fun y:ah=>ah.size y) a0:=Nat.le_add_right _ _
 have he:∀i,ah.size (a0.getD i ah.zero)<=dP (fun y:ah=>ah.size y) a0:=fun i=>mW (f:=fun y:ah=>ah.size y) (z:=ah.zero) rfl
 have hp:∀x,aL.size (Z91.md a0 x).1<=a0.length:=fun x=>Z91.sz a0 x
 have hd:∀(n:Int) (b a:ah) (l r:aL),bT.size ⟨n,b,a,l,r⟩=ah.size b+ah.size a+aL.size l+aL.size r:=fun _ _ _ _ _=>rfl
 have e0:ah.size ⟨⟨#[]⟩,0,0,[]⟩=0:=rfl
 have p0:aL.size ⟨0,[]⟩=0:=rfl
 have h1:=he (toNat (i64.wrap ((Z92.md a0 a1) - 1)))
 have h2:=he (toNat (Z92.md a0 a1))
 have h3:=hp ((a0.getD (toNat (i64.wrap ((Z92.md a0 a1) - 1))) ah.zero).bf)
 have h4:=hp ((a0.getD (toNat (Z92.md a0 a1)) ah.zero).bf)
 unfold md
 simp only [Bool.cond_eq_ite]
 repeat' split
 all_goals simp only [hd,e0,p0]
 all_goals omega
end Z93
namespace Z94
def F (x0:dJ)(x1:aD):aH:=(call (Z85.R x0) fun v1=>(cond (!v1) (ret ((⟨[],false,(⟨(⟨#[]⟩:aD),0,0,[]⟩:aU),(⟨0,[]⟩:bR),(⟨0,(⟨(⟨#[]⟩:aD),0,0,[]⟩:aU),(⟨(⟨#[]⟩:aD),0,0,[]⟩:aU),(⟨0,[]⟩:bR),(⟨0,[]⟩:bR)⟩:dK)⟩:aY):aY)) (call (Z42.R x1) fun v2=>(cond (!v2) (ret ((⟨[],false,(⟨(⟨#[]⟩:aD),0,0,[]⟩:aU),(⟨0,[]⟩:bR),(⟨0,(⟨(⟨#[]⟩:aD),0,0,[]⟩:aU),(⟨(⟨#[]⟩:aD),0,0,[]⟩:aU),(⟨0,[]⟩:bR),(⟨0,[]⟩:bR)⟩:dK)⟩:aY):aY)) (call (Z38.R x0.aR) fun v3=>(call (Z88.R (x0.bK,x1)) fun v4=>(cond (decide (v4>=0)) (m2 v4 (x0.bK.length:Int) (call (Z89.R (aU.at x0.bK (toNat v4))) fun v5=>(call (Z91.R (x0.bK,x1)) fun v6=>ret ((⟨v3,true,v5,v6.1,(⟨0,(⟨(⟨#[]⟩:aD),0,0,[]⟩:aU),(⟨(⟨#[]⟩:aD),0,0,[]⟩:aU),(⟨0,[]⟩:bR),(⟨0,[]⟩:bR)⟩:dK)⟩:aY):aY)))) (call (Z93.R (x0.bK,x1)) fun v7=>ret ((⟨v3,false,(⟨(⟨#[]⟩:aD),0,0,[]⟩:aU),(⟨0,[]⟩:bR),v7.1⟩:aY):aY)))))))))
def md (a0:aK)(a1:aD):av:=(cond (!(Z85.md a0)) (⟨[],false,(⟨((⟨#[]⟩:aD):aD),0,0,[]⟩:ah),(⟨0,[]⟩:aL),(⟨0,(⟨((⟨#[]⟩:aD):aD),0,0,[]⟩:ah),(⟨((⟨#[]⟩:aD):aD),0,0,[]⟩:ah),(⟨0,[]⟩:aL),(⟨0,[]⟩:aL)⟩:bT)⟩:av) (cond (!(Z42.md a1)) (⟨[],false,(⟨((⟨#[]⟩:aD):aD),0,0,[]⟩:ah),(⟨0,[]⟩:aL),(⟨0,(⟨((⟨#[]⟩:aD):aD),0,0,[]⟩:ah),(⟨((⟨#[]⟩:aD):aD),0,0,[]⟩:ah),(⟨0,[]⟩:aL),(⟨0,[]⟩:aL)⟩:bT)⟩:av) (cond (decide ((Z88.md a0.bK a1)>=0)) (⟨a0.aR,true,(a0.bK.getD (toNat (Z88.md a0.bK a1)) ah.zero),(Z91.md a0.bK a1).1,(⟨0,(⟨((⟨#[]⟩:aD):aD),0,0,[]⟩:ah),(⟨((⟨#[]⟩:aD):aD),0,0,[]⟩:ah),(⟨0,[]⟩:aL),(⟨0,[]⟩:aL)⟩:bT)⟩:av) (⟨a0.aR,false,(⟨((⟨#[]⟩:aD):aD),0,0,[]⟩:ah),(⟨0,[]⟩:aL),(Z93.md a0.bK a1).1⟩:av))))
def gd (a0:aK)(a1:aD):Prop:=(aK.Sm (2^21) a0)/\(a1.size<=(2^21))
def R:=RR (p2 gd) (u2 md)
def aj {a0 a1}(h:gd a0 a1):R ((aK.r a0),a1)=some (av.r (md a0 a1)):=aO (a:=(a0,a1)) h
def aW:=CN [.agg sJ,pS] (.agg f165) RT.dec R
def bw (a0)(a1)(hg:gd a0 a1):F (aK.r a0) a1=ret (av.r (md a0 a1)):=by
 obtain ⟨H0,H1⟩:=hg
 unfold F md
 try simp only [SS]
 refine ct (Z85.aj H0) ?_
 refine au (fun b:av=>ret ((av.r b):aY)) (fun c1=>?_) (fun c1=>?_)
 ·all_goals exact fz
 ·have dc1:=c1
  try simp only [DC] at dc1
  refine ct (Z42.aj (le_trans H1 (by decide))) ?_
  refine au (fun b:av=>ret ((av.r b):aY)) (fun c2=>?_) (fun c2=>?_)
  ·all_goals exact fz
  ·have dc2:=c2
   try simp only [DC] at dc2
   try have tc2:=Z42.tr (by simpa using c2)
   refine ct (Z38.aj H0.1) ?_
   try simp only [SS]
   refine ct (Z88.aj H0.2) ?_
   have fv4_:=Z88.fa a0.bK a1
   refine au (fun b:av=>ret ((av.r b):aY)) (fun c3=>?_) (fun c3=>?_)
   ·have dc3:=c3
    try simp only [DC] at dc3
    refine ak dt ?_
    refine ak (have:=(H0.2).1;dt) ?_
    refine ct (Z89.aj (bM.getD (z:=ah.zero) H0.2 (by first | assumption | omega | (simp (disch:=omega) only [wi];omega) | (simp;omega)))) ?_
    try simp only [SS]
    refine ct (Z91.aj H0.2) ?_
    try simp only [SS]
    all_goals exact fz
   ·refine ct (Z93.aj ⟨H0.2,H1⟩) ?_
    try simp only [SS]
    all_goals exact fz
def af:cy 130 aW:=W2 52 F mix aF bw (.cons Z85.af (.cons Z42.af (.cons Z38.af (.cons Z88.af (.cons Z89.af (.cons Z91.af (.cons Z93.af .nil))))))) Tryz.func130
def gb {a0:aK}{a1:aD}(hg:gd a0 a1):av.Sm (2^21) (md a0 a1):=by
 unfold gd at hg;unfold md
 obtain ⟨⟨hc,hl⟩,_⟩:=hg
 have ez:ah.Sm (2^21) ⟨⟨#[]⟩,0,0,[]⟩:=⟨zero_le _,bM.nil⟩
 have pz:aL.Sm (2^21) ⟨0,[]⟩:=bM.nil
 have gz:bT.Sm (2^21) ⟨0,⟨⟨#[]⟩,0,0,[]⟩,⟨⟨#[]⟩,0,0,[]⟩,⟨0,[]⟩,⟨0,[]⟩⟩:=⟨ez,ez,pz,pz⟩
 have he:∀i,ah.Sm (2^21) (a0.bK.getD i ah.zero):=fun i=>bM.vq hl ez
 have hp:∀x,aL.Sm (2^21) (Z91.md a0.bK x).1:=fun x=>Z91.gb hl
 have hga:bT.Sm (2^21) (Z93.md a0.bK a1).1:=Z93.gb ⟨hl,by assumption⟩
 simp only [Bool.cond_eq_ite]
 repeat' split
 all_goals (refine ⟨?_,?_,?_,?_⟩<;>first | exact hc | exact bM.nil | exact he _ | exact hp _ | exact hga | exact ez | exact pz | exact gz)
def sz (a0:aK)(a1:aD):av.size (md a0 a1)<=6*aK.size a0:=by
 have hz:aK.size a0=dP (fun y:aa=>aa.size y) a0.aR+dP (fun y:ah=>ah.size y) a0.bK:=rfl
 have hl:a0.bK.length<=dP (fun y:ah=>ah.size y) a0.bK:=Nat.le_add_right _ _
 have he:∀i,ah.size (a0.bK.getD i ah.zero)<=dP (fun y:ah=>ah.size y) a0.bK:=fun i=>mW (f:=fun y:ah=>ah.size y) (z:=ah.zero) rfl
 have hp:=Z91.sz a0.bK a1
 have hg:=Z93.sz a0.bK a1
 have hd:∀(c:List aa) (f:Bool) (e:ah) (p:aL) (g:bT),av.size ⟨c,f,e,p,g⟩=dP (fun y:aa=>aa.size y) c+ah.size e+aL.size p+bT.size g:=fun _ _ _ _ _=>rfl
 have e0:ah.size ⟨⟨#[]⟩,0,0,[]⟩=0:=rfl
 have p0:aL.size ⟨0,[]⟩=0:=rfl
 have g0:bT.size ⟨0,⟨⟨#[]⟩,0,0,[]⟩,⟨⟨#[]⟩,0,0,[]⟩,⟨0,[]⟩,⟨0,[]⟩⟩=0:=rfl
 have c0:dP (fun y:aa=>aa.size y) []=0:=rfl
 have h1:=he (toNat (Z88.md a0.bK a1))
 unfold md
 simp only [Bool.cond_eq_ite]
 repeat' split
 all_goals simp only [hd,e0,p0,g0,c0]
 all_goals omega
end Z94
namespace Z95
def F (x0:cI)(x1:Int)(x2:aD):aH:=(call (Z87.R (x0,x1)) fun v1=>(cond (decide (v1<0)) (ret ((⟨[],false,(⟨(⟨#[]⟩:aD),0,0,[]⟩:aU),(⟨0,[]⟩:bR),(⟨0,(⟨(⟨#[]⟩:aD),0,0,[]⟩:aU),(⟨(⟨#[]⟩:aD),0,0,[]⟩:aU),(⟨0,[]⟩:bR),(⟨0,[]⟩:bR)⟩:dK)⟩:aY):aY)) (cond (x0.gF==4) (ret ((⟨[],false,(⟨(⟨#[]⟩:aD),0,0,[]⟩:aU),(⟨0,[]⟩:bR),(⟨0,(⟨(⟨#[]⟩:aD),0,0,[]⟩:aU),(⟨(⟨#[]⟩:aD),0,0,[]⟩:aU),(⟨0,[]⟩:bR),(⟨0,[]⟩:bR)⟩:dK)⟩:aY):aY)) (m2 v1 (x0.bG.length:Int) (call (Z94.R ((dJ.at x0.bG (toNat v1)),x2)) fun v2=>(cond (x0.gF==1) (ret ((⟨v2.aR,v2.cq,(⟨v2.aT.bf,v2.aT.bJ,(i64.wrap (v2.aT.bV+1)),v2.aT.bH⟩:aU),v2.ep,v2.fR⟩:aY):aY)) (cond (x0.gF==2) (cond (decide ((v2.aR.length:Int)>0)) (bZ (decide ((0:Int)<=(i64.wrap ((v2.aR.length:Int) - 1)))) (bZ (decide ((i64.wrap ((v2.aR.length:Int) - 1))<=(v2.aR.length:Int))) (ret ((⟨(List.take (toNat (i64.wrap ((v2.aR.length:Int) - 1))) v2.aR),v2.cq,v2.aT,v2.ep,v2.fR⟩:aY):aY)))) (ret (v2:aY))) (cond (x0.gF==3) (ret ((⟨v2.aR,false,(⟨(⟨#[]⟩:aD),0,0,[]⟩:aU),(⟨0,[]⟩:bR),(⟨0,(⟨(⟨#[]⟩:aD),0,0,[]⟩:aU),(⟨(⟨#[]⟩:aD),0,0,[]⟩:aU),(⟨0,[]⟩:bR),(⟨0,[]⟩:bR)⟩:dK)⟩:aY):aY)) (ret (v2:aY))))))))))
def pats:List gj:=[.agg [.sl 155,aB],.rd (.int .i64),.rd (.str)]
def res:RP:=.agg [.fr 141,.rd (.bool),.rd (.str),.rd (.int .i64),.rd (.int .i64),.fr 9,.rd (.int .i64),.fr 3,.rd (.int .i64),.rd (.str),.rd (.int .i64),.rd (.int .i64),.fr 9,.rd (.str),.rd (.int .i64),.rd (.int .i64),.fr 9,.rd (.int .i64),.fr 3,.rd (.int .i64),.fr 3]
def md (a0:ay)(a1:Int)(a2:aD):av:=(cond (decide ((Z87.md a0 a1)<0)) (⟨[],false,(⟨((⟨#[]⟩:aD):aD),0,0,[]⟩:ah),(⟨0,[]⟩:aL),(⟨0,(⟨((⟨#[]⟩:aD):aD),0,0,[]⟩:ah),(⟨((⟨#[]⟩:aD):aD),0,0,[]⟩:ah),(⟨0,[]⟩:aL),(⟨0,[]⟩:aL)⟩:bT)⟩:av) (cond (a0.gF==4) (⟨[],false,(⟨((⟨#[]⟩:aD):aD),0,0,[]⟩:ah),(⟨0,[]⟩:aL),(⟨0,(⟨((⟨#[]⟩:aD):aD),0,0,[]⟩:ah),(⟨((⟨#[]⟩:aD):aD),0,0,[]⟩:ah),(⟨0,[]⟩:aL),(⟨0,[]⟩:aL)⟩:bT)⟩:av) (cond (a0.gF==1) (⟨(Z94.md (a0.bG.getD (toNat (Z87.md a0 a1)) aK.zero) a2).aR,(Z94.md (a0.bG.getD (toNat (Z87.md a0 a1)) aK.zero) a2).cq,(⟨(Z94.md (a0.bG.getD (toNat (Z87.md a0 a1)) aK.zero) a2).aT.bf,(Z94.md (a0.bG.getD (toNat (Z87.md a0 a1)) aK.zero) a2).aT.bJ,(i64.wrap ((Z94.md (a0.bG.getD (toNat (Z87.md a0 a1)) aK.zero) a2).aT.bV+1)),(Z94.md (a0.bG.getD (toNat (Z87.md a0 a1)) aK.zero) a2).aT.bH⟩:ah),(Z94.md (a0.bG.getD (toNat (Z87.md a0 a1)) aK.zero) a2).ep,(Z94.md (a0.bG.getD (toNat (Z87.md a0 a1)) aK.zero) a2).fR⟩:av) (cond (a0.gF==2) (cond (decide (((Z94.md (a0.bG.getD (toNat (Z87.md a0 a1)) aK.zero) a2).aR.length:Int)>0)) (⟨(List.take (toNat (i64.wrap (((Z94.md (a0.bG.getD (toNat (Z87.md a0 a1)) aK.zero) a2).aR.length:Int) - 1))) (Z94.md (a0.bG.getD (toNat (Z87.md a0 a1)) aK.zero) a2).aR),(Z94.md (a0.bG.getD (toNat (Z87.md a0 a1)) aK.zero) a2).cq,(Z94.md (a0.bG.getD (toNat (Z87.md a0 a1)) aK.zero) a2).aT,(Z94.md (a0.bG.getD (toNat (Z87.md a0 a1)) aK.zero) a2).ep,(Z94.md (a0.bG.getD (toNat (Z87.md a0 a1)) aK.zero) a2).fR⟩:av) (Z94.md (a0.bG.getD (toNat (Z87.md a0 a1)) aK.zero) a2)) (cond (a0.gF==3) (⟨(Z94.md (a0.bG.getD (toNat (Z87.md a0 a1)) aK.zero) a2).aR,false,(⟨((⟨#[]⟩:aD):aD),0,0,[]⟩:ah),(⟨0,[]⟩:aL),(⟨0,(⟨((⟨#[]⟩:aD):aD),0,0,[]⟩:ah),(⟨((⟨#[]⟩:aD):aD),0,0,[]⟩:ah),(⟨0,[]⟩:aL),(⟨0,[]⟩:aL)⟩:bT)⟩:av) (Z94.md (a0.bG.getD (toNat (Z87.md a0 a1)) aK.zero) a2))))))
def gd (a0:ay)(a1:Int)(a2:aD):Prop:=(ay.Sm (2^21) a0)/\(a2.size<=(2^21))
def acc (ls:List L):cI×Int×aD:=((cI.dec ls),((aA 2 ls).headD .hole).toInt,((aA 3 ls).headD .hole).toStr)
def R:(cI×Int×aD)->Option aY:=RR (p3 gd) (u3 md)
def aj {a0 a1 a2}(h:gd a0 a1 a2):R ((ay.r a0),a1,a2)=some (av.r (md a0 a1 a2)):=aO (a:=(a0,a1,a2)) h
def aW:fT:=CN pats res acc R
def bw (a0:ay)(a1:Int)(a2:aD)(hg:gd a0 a1 a2):F (ay.r a0) a1 a2=ret ((av.r (md a0 a1 a2)):aY):=by
 obtain ⟨H0,H2⟩:=hg
 unfold F md
 try simp only [SS]
 refine ct (Z87.aj H0) ?_
 have fv1_:=Z87.fa a0 a1
 refine au (fun b:av=>ret ((av.r b):aY)) (fun c1=>?_) (fun c1=>?_)
 ·all_goals exact fz
 ·have dc1:=c1
  try simp only [DC] at dc1
  refine au (fun b:av=>ret ((av.r b):aY)) (fun c2=>?_) (fun c2=>?_)
  ·all_goals exact fz
  ·have dc2:=c2
   try simp only [DC] at dc2
   refine ak (have:=(H0).1;dt) ?_
   refine ak (have:=(H0).1;have:=(H0).1;dt) ?_
   refine ct (Z94.aj ⟨(bM.getD (z:=aK.zero) H0 (by have:=(H0).1;first | assumption | omega | (simp (disch:=omega) only [wi];omega) | (simp;omega))),H2⟩) ?_
   try simp only [SS]
   refine au (fun b:av=>ret ((av.r b):aY)) (fun c3=>?_) (fun c3=>?_)
   ·all_goals exact fz
   ·have dc3:=c3
    try simp only [DC] at dc3
    refine au (fun b:av=>ret ((av.r b):aY)) (fun c4=>?_) (fun c4=>?_)
    ·have dc4:=c4
     try simp only [DC] at dc4
     refine au (fun b:av=>ret ((av.r b):aY)) (fun c5=>?_) (fun c5=>?_)
     ·have dc5:=c5
      try simp only [DC] at dc5
      refine ak (have:=((Z94.gb (a0:=a0.bG.getD (toNat (Z87.md a0 a1)) aK.zero) (a1:=a2) ⟨(bM.getD (z:=aK.zero) H0 (by have:=(H0).1;first | assumption | omega | (simp (disch:=omega) only [wi];omega) | (simp;omega))),H2⟩).1).1;have:=(H0).1;dt) ?_
      refine ak (have:=((Z94.gb (a0:=a0.bG.getD (toNat (Z87.md a0 a1)) aK.zero) (a1:=a2) ⟨(bM.getD (z:=aK.zero) H0 (by have:=(H0).1;first | assumption | omega | (simp (disch:=omega) only [wi];omega) | (simp;omega))),H2⟩).1).1;have:=(H0).1;dt) ?_
      all_goals exact fz
     ·all_goals exact fz
    ·refine au (fun b:av=>ret ((av.r b):aY)) (fun c6=>?_) (fun c6=>?_)
     ·all_goals exact fz
     ·all_goals exact fz
def af:cy 106 aW:=VT (live:=fun _=>[]) (nt:=57) (run:=fun _ x=>F x.1 x.2.1 x.2.2) mix aF (.cons Z87.af (.cons Z94.af .nil)) .nil Tryz.func106 (by kernel_rfl) (fun _ _=>by kernel_rfl) (fun _ a _ _ hg=>⟨0,bw a.1 a.2.1 a.2.2 hg⟩)
def gb {a0:ay}{a1:Int}{a2:aD}(hg:gd a0 a1 a2):av.Sm (2^21) (md a0 a1 a2):=by
 unfold gd at hg;unfold md
 obtain ⟨hs,hl⟩:=hg
 have ez:ah.Sm (2^21) ⟨⟨#[]⟩,0,0,[]⟩:=⟨zero_le _,bM.nil⟩
 have pz:aL.Sm (2^21) ⟨0,[]⟩:=bM.nil
 have gz:bT.Sm (2^21) ⟨0,⟨⟨#[]⟩,0,0,[]⟩,⟨⟨#[]⟩,0,0,[]⟩,⟨0,[]⟩,⟨0,[]⟩⟩:=⟨ez,ez,pz,pz⟩
 have zz:aK.Sm (2^21) aK.zero:=⟨bM.nil,bM.nil⟩
 have ha:∀i,av.Sm (2^21) (Z94.md (a0.bG.getD i aK.zero) a2):=fun i=>Z94.gb ⟨bM.vq hs zz,hl⟩
 have ht:∀i n,bM (2^21) (fun y:aa=>aa.Sm (2^21) y) (List.take n (List.drop 0 (Z94.md (a0.bG.getD i aK.zero) a2).aR)):=fun i n=>⟨le_trans (by simp;omega) (ha i).1.1,fun x hx=>(ha i).1.2 x (List.mem_of_mem_take hx)⟩
 have ht2:∀i n,bM (2^21) (fun y:aa=>aa.Sm (2^21) y) (List.take n (Z94.md (a0.bG.getD i aK.zero) a2).aR):=fun i n=>⟨le_trans (by simp;omega) (ha i).1.1,fun x hx=>(ha i).1.2 x (List.mem_of_mem_take hx)⟩
 simp only [Bool.cond_eq_ite]
 repeat' split
 all_goals first | exact ha _ | (refine ⟨?_,?_,?_,?_⟩<;>first | exact ht _ _ | exact ht2 _ _ | exact bM.nil | exact (ha _).1 | exact (ha _).2.1 | exact (ha _).2.2.1 | exact (ha _).2.2.2 | exact ez | exact pz | exact gz)
def vH {α:Type}(f:α->Nat):∀(n:Nat) (xs:List α),dP f (xs.take n)<=dP f xs
 | 0,xs=>by simp [dP]
 | n+1,[]=>by simp [dP]
 | n+1,x::xs=>by
  have:=vH f n xs
  unfold dP at this ⊢
  simp only [List.take_succ_cons,List.length_cons,List.map_cons,List.sum_cons]
  omega
def sz (a0:ay)(a1:Int)(a2:aD):av.size (md a0 a1 a2)<=6*ay.size a0:=by
 have hz:aK.size (a0.bG.getD (toNat (Z87.md a0 a1)) aK.zero)<=ay.size a0:=mW (f:=fun y:aK=>aK.size y) (xs:=a0.bG) (z:=aK.zero) rfl
 have hA:=Z94.sz (a0.bG.getD (toNat (Z87.md a0 a1)) aK.zero) a2
 have hd:∀(c:List aa) (f:Bool) (e:ah) (p:aL) (g:bT),av.size ⟨c,f,e,p,g⟩=dP (fun y:aa=>aa.size y) c+ah.size e+aL.size p+bT.size g:=fun _ _ _ _ _=>rfl
 have he:∀(l:aD) (k v:Int) (p:List aD),ah.size ⟨l,k,v,p⟩=l.size+dP (fun y:aD=>y.size) p:=fun _ _ _ _=>rfl
 unfold md
 revert hA
 generalize Z94.md (a0.bG.getD (toNat (Z87.md a0 a1)) aK.zero) a2=A
 intro hA
 have hA2:av.size A=dP (fun y:aa=>aa.size y) A.aR+ah.size A.aT+aL.size A.ep+bT.size A.fR:=rfl
 have hE2:ah.size A.aT=A.aT.bf.size+dP (fun y:aD=>y.size) A.aT.bH:=rfl
 have ht:=fun n=>vH (fun y:aa=>aa.size y) n A.aR
 have e0:ah.size ⟨⟨#[]⟩,0,0,[]⟩=0:=rfl
 have p0:aL.size ⟨0,[]⟩=0:=rfl
 have g0:bT.size ⟨0,⟨⟨#[]⟩,0,0,[]⟩,⟨⟨#[]⟩,0,0,[]⟩,⟨0,[]⟩,⟨0,[]⟩⟩=0:=rfl
 have c0:dP (fun y:aa=>aa.size y) []=0:=rfl
 have ht1:=ht (toNat (i64.wrap ((A.aR.length:Int) - 1)))
 simp only [Bool.cond_eq_ite]
 repeat' split
 all_goals first
  | omega
  | (simp only [hd,e0,p0,g0,c0];omega)
  | (simp only [hd,he];omega)
end Z95
namespace Z96
inductive Pt where
 | p0 (a:aC) (b:Int) (c:aD) (d:Int) (e:aC)
def pid:Pt->Nat
 | .p0 ..=>3
def cj:Pt->List V
 | .p0 a b c d e=>[.sl none 88 a,.int .i64 b,.str c,.own 0,.int .i64 d]
def cg:Pt->List aV
 | .p0 a b c d e=>[.row 165 e]
def step (J:Pt->aH):Pt->aH
 | .p0 a b c d e=>(cond (decide (d<(a.length:Int))) (cond (decide (d<4)) (m2 d (a.length:Int) (call (Z95.R ((cI.at a (toNat d)),b,c)) fun v1=>(bZ (eP (((e.length:Int)+1)*304)) (J (.p0 a b c (i64.wrap (d+1)) (e++[(aY.enc v1)])))))) (ret (e:aC))) (ret (e:aC)))
def start (J:Pt->aH)(x0:aC)(x1:Int)(x2:aD):aH:=J (.p0 x0 x1 x2 0 [])
def live:Nat->Live:=fun i=>match i with | 3=>[(0,none),(1,none),(2,none),(7,some 165),(8,none)] | _=>[]
def md (a0:List ay)(a1:Int)(a2:aD):List av:=(dR (S:=List av) (β:=List av) (fun (i1:Nat) (y1:ay) (s3:List av)=>(cond (decide ((i1:Int)<4)) (.inl (s3++[(Z95.md y1 a1 a2)])) (.inr s3))) (fun (s3:List av)=>s3) 0 a0 [])
def gd (a0:List ay)(a1:Int)(a2:aD):Prop:=(bM (2^21) (fun y:ay=>ay.Sm (2^21) y) a0)/\(a2.size<=(2^21))
def R:=RR (p3 gd) (u3 md)
def aj {a0 a1 a2}(h:gd a0 a1 a2):R ((a0.map ay.row),a1,a2)=some ((md a0 a1 a2).map av.row):=aO (a:=(a0,a1,a2)) h
def aW:=CN [pL 88,pI,pS] (oL 165) RT.dec R
def bw (a0)(a1)(a2)(hg:gd a0 a1 a2):∃n,start (iter step n) (a0.map ay.row) a1 a2=ret ((md a0 a1 a2).map av.row):=by
 obtain ⟨H0,H2⟩:=hg
 unfold start md
 try simp only [SS]
 have Bh2:a0.length<=maxLen:=(by
   have:=(H0).1
   try simp only [maxLen] at *
   omega)
 refine ex_eq (out:=(fun b:List av=>ret ((b.map av.row):aC))) (cU (z:=ay.zero)) ?_
 refine dM (p:=Pt.p0 (a0.map ay.row) a1 a2 0 ([].map av.row)) fz ?_
 refine cm (pt:=fun (i1:Nat) (s3:List av)=>Pt.p0 (a0.map ay.row) a1 a2 (i1:Int) (s3.map av.row)) (s:=([]:List av)) (out:=(fun b:List av=>ret ((b.map av.row):aC))) (fun (i1:Nat) (s3:List av)=>s3.length<=([]:List Int).length+1*i1) (fun J i1 s3 h2 hih2=>?_) (fun s3 hih2=>?_) (by simp)
 ·simp only [step,SS]
  have gr_:=hih2
  try simp only [LN] at gr_
  have bb_:=Bh2
  simp only [maxLen] at bb_
  have:=(H0).1
  refine bz.yes (by apply decide_eq_true;omega) ?_
  refine bz.bif (fun c4=>?_) (fun c4=>?_)
  ·have dc4:=c4
   try simp only [DC] at dc4
   refine bz.yes aJ ?_
   refine bz.yes (aN h2) ?_
   refine cr (Z95.aj ⟨(bM.getD (z:=ay.zero) H0 h2),H2⟩) ?_
   try simp only [SS]
   refine bz.yes lm ?_
   refine bz.inl (by
     have g_:=hih2
     try simp only [LN] at g_ ⊢
     first | omega | (simp;done) | (simp;omega)) ?_
   rw [aG h2 Bh2]
   all_goals exact fz
  ·refine bz.inr ?_
   all_goals exact fz
 ·simp only [step,SS]
  have gr_:=hih2
  try simp only [LN] at gr_
  have:=(H0).1
  refine dx (by apply decide_eq_false;omega) ?_
  refine ⟨0,?_⟩
  all_goals exact fz
def af:cy 65 aW:=L3 31 pid cj cg live step start mix aF bw (.cons Z95.af .nil) Tryz.func65
def pV (a0:List ay)(a1:Int)(a2:aD):md a0 a1 a2=(a0.take 4).map (fun y=>Z95.md y a1 a2):=by
 have key:∀(xs:List ay) (i:Nat) (s:List av),i<=4->dR (S:=List av) (β:=List av) (fun (i1:Nat) (y1:ay) (s3:List av)=>(cond (decide ((i1:Int)<4)) (.inl (s3++[(Z95.md y1 a1 a2)])) (.inr s3))) (fun (s3:List av)=>s3) i xs s=s++(xs.take (4 - i)).map (fun y=>Z95.md y a1 a2):=by
  intro xs
  induction xs with
  | nil=>intro i s _;simp [dR]
  | cons x xs ih=>
   intro i s hi
   unfold dR
   by_cases h:i<4
   ·rw [decide_eq_true (by omega)]
    simp only [bg]
    rw [ih (i+1) _ (by omega),show 4 - i=(4 - (i+1))+1 by omega]
    simp
   ·rw [decide_eq_false (by omega),show 4 - i=0 by omega]
    simp
 exact (key a0 0 [] (by omega)).trans (by simp)
def gb {a0:List ay}{a1:Int}{a2:aD}(hg:gd a0 a1 a2):bM (2^21) (fun y:av=>av.Sm (2^21) y) (md a0 a1 a2):=by
 unfold gd at hg
 rw [pV]
 exact (bM.take hg.1).map fun x hx=>Z95.gb ⟨hx,hg.2⟩
def BG (a0:List ay)(a1:Int)(a2:aD):(md a0 a1 a2).length<=4:=by
 rw [pV,List.length_map]
 exact le_trans (List.length_take_le _ _) (Nat.le_refl _)
def sz (a0:List ay)(a1:Int)(a2:aD):dP (fun y:av=>av.size y) (md a0 a1 a2)<=6*dP (fun y:ay=>ay.size y) a0:=by
 rw [pV]
 have key:∀xs:List ay,dP (fun y:av=>av.size y) (xs.map (fun y=>Z95.md y a1 a2))<=6*dP (fun y:ay=>ay.size y) xs:=by
  intro xs
  induction xs with
  | nil=>exact zero_le _
  | cons x xs ih=>
   have h:=Z95.sz x a1 a2
   unfold dP at ih ⊢
   simp only [List.map_cons,List.length_cons,List.sum_cons,List.length_map] at ih ⊢
   omega
 exact le_trans (key _) (Nat.mul_le_mul_left _ (Z95.vH _ _ _))
end Z96
namespace Z97
inductive Pt where
 | p0 (a b:Int) (c:bu)
def pid:Pt->Nat
 | .p0 ..=>2
def cj:Pt->List V
 | .p0 a b c=>[.int .i64 a,.cK 0 0,.int .i64 b]
def cg:Pt->List aV
 | .p0 a b c=>[.box [.sl none 134 c.aI,.sl none 143 c.bn]]
def step (J:Pt->aH):Pt->aH
 | .p0 a b c=>(cond (decide (b<(c.aI.length:Int))) (m2 b (c.aI.length:Int) (cond (decide (((oy c.aI (toNat b)).length:Int)>0)) (m2 b (c.aI.length:Int) (bZ (decide ((0:Int)<((oy c.aI (toNat b)).length:Int))) (cond ((aP.at (oy c.aI (toNat b)) 0).an.bD==a) (ret (b:Int)) (J (.p0 a (i64.wrap (b+1)) c))))) (J (.p0 a (i64.wrap (b+1)) c)))) (ret ((-1):Int)))
def start (J:Pt->aH)(x0:bu)(x1:Int):aH:=J (.p0 x1 0 x0)
def live:Nat->Live:=fun i=>match i with | 2=>[(1,none),(2,none),(5,none)] | _=>[]
def md (a0:aq)(a1:Int):Int:=(dR (S:=Unit) (β:=Int) (fun (i1:Nat) (y1:List aa) (s3:Unit)=>(cond (decide ((y1.length:Int)>0)) (cond (((y1.getD 0 aa.zero).an).bD==a1) (.inr ((i1:Int):Int)) (.inl ())) (.inl ()))) (fun (s3:Unit)=>((-1):Int)) 0 a0.aI ())
def gd (a0:aq)(a1:Int):Prop:=(aq.Sm (2^21) a0)
def R:=RR (p2 gd) (u2 md)
def aj {a0 a1}(h:gd a0 a1):R ((aq.r a0),a1)=some (md a0 a1):=aO (a:=(a0,a1)) h
def aW:=CN [.agg tE,pI] oI RT.dec R
def bw (a0)(a1)(hg:gd a0 a1):∃n,start (iter step n) (aq.r a0) a1=ret (md a0 a1):=by
 unfold gd at hg
 have H0:=hg
 unfold start md
 try simp only [SS]
 have Bh2:a0.aI.length<=maxLen:=(by
   have:=(H0.1).1
   try simp only [maxLen] at *
   omega)
 refine ex_eq (out:=ret) (cU (z:=[])) ?_
 refine dM (p:=Pt.p0 a1 0 (aq.r a0)) fz ?_
 refine cm (pt:=fun (i1:Nat) (s3:Unit)=>Pt.p0 a1 (i1:Int) (aq.r a0)) (s:=(():Unit)) (out:=ret) (fun _ _=>True) (fun J i1 s3 h2 hih2=>?_) (fun s3 hih2=>?_) trivial
 ·simp only [step,SS]
  have bb_:=Bh2
  simp only [maxLen] at bb_
  have:=(H0.1).1
  refine bz.yes (by apply decide_eq_true;omega) ?_
  refine bz.yes aJ ?_
  refine bz.yes (aN h2) ?_
  refine bz.bif (fun c4=>?_) (fun c4=>?_)
  ·have dc4:=c4
   try simp only [DC] at dc4
   refine bz.yes aJ ?_
   refine bz.yes (aN h2) ?_
   refine bz.yes (have:=((bM.getD (z:=[]) H0.1 h2)).1;dt) ?_
   refine bz.bif (fun c5=>?_) (fun c5=>?_)
   ·refine bz.inr ?_
    all_goals exact fz
   ·refine bz.inl trivial ?_
    rw [aG h2 Bh2]
    all_goals exact fz
  ·refine bz.inl trivial ?_
   rw [aG h2 Bh2]
   all_goals exact fz
 ·simp only [step,SS]
  have:=(H0.1).1
  refine dx (by apply decide_eq_false;omega) ?_
  refine ⟨0,?_⟩
  all_goals exact fz
def af:cy 124 aW:=L2 34 pid cj cg live step start mix aF bw .nil Tryz.func124
def fa (a0:aq)(a1:Int):-1<=md a0 a1/\md a0 a1<(a0.aI.length:Int):=by
 unfold md
 refine fW ?_ _ _
 all_goals
  intro i x s b h
  revert h
  simp only [Bool.cond_eq_ite]
  repeat' split
  all_goals (intro h;first | (cases h;rfl) | cases h)
end Z97
namespace Z98
def F (x0 x1:bX):aH:=(call (Z52.R x0) fun v1=>(call (Z52.R x1) fun v2=>(call (Z61.R (v1,v2)) fun v3=>(cond v3 (ret ((x0.bC==x1.bC):Bool)) bh))))
def md (a0 a1:aE):Bool:=(cond (Z61.md (Z52.md a0) (Z52.md a1)) ((a0.bC==a1.bC):Bool) (false:Bool))
def gd (a0 a1:aE):Prop:=(aE.Sm (2^21) a0)/\(aE.Sm (2^21) a1)
def R:=RR (p2 gd) (u2 md)
def aj {a0 a1}(h:gd a0 a1):R ((aE.r a0),(aE.r a1))=some (md a0 a1):=aO (a:=(a0,a1)) h
def aW:=CN [.agg fU,.agg fU] oB RT.dec R
def bw (a0)(a1)(hg:gd a0 a1):F (aE.r a0) (aE.r a1)=ret (md a0 a1):=by
 obtain ⟨H0,H1⟩:=hg
 unfold F md
 try simp only [SS]
 refine ct (Z52.aj H0) ?_
 try simp only [SS]
 refine ct (Z52.aj H1) ?_
 try simp only [SS]
 refine ct (Z61.aj ⟨⟨(have:=Z52.len a0;have:=(H0.1).1;have:=(H0.2.1).1;have:=(H0.2.2).1;om),fun _ _=>trivial⟩,⟨(have:=Z52.len a1;have:=(H1.1).1;have:=(H1.2.1).1;have:=(H1.2.2).1;om),fun _ _=>trivial⟩⟩) ?_
 refine au ret (fun c1=>?_) (fun _=>rfl)
 all_goals exact fz
def af:cy 156 aW:=W2 17 F mix aF bw (.cons Z52.af (.cons Z61.af .nil)) Tryz.func156
def md_eq (a0 a1:aE):md a0 a1=dV a0 a1:=by
 unfold md
 simp only [Z61.md_eq,bool_beq]
 rw [Bool.eq_iff_iff]
 constructor
 ·intro h
  cases he:dV (Z52.md a0) (Z52.md a1)<;>rw [he] at h
  ·cases h
  ·exact cZ.2 (Z52.inj (cZ.1 he))
 ·intro h
  rw [cZ] at h
  rw [h,fN,fN];rfl
end Z98
namespace Z99
inductive Pt where
 | p0 (a b:aC) (c:Int)
def pid:Pt->Nat
 | .p0 ..=>4
def cj:Pt->List V
 | .p0 a b c=>[.sl none 141 a,.sl none 141 b,.int .i64 c]
def cg:Pt->List aV
 | .p0 a b c=>[]
def step (J:Pt->aH):Pt->aH
 | .p0 a b c=>(cond (decide (c<(a.length:Int))) (m2 c (a.length:Int) (m2 c (b.length:Int) (call (Z98.R ((aP.at a (toNat c)).an,(aP.at b (toNat c)).an)) fun v1=>(cond (!v1) bh (J (.p0 a b (i64.wrap (c+1)))))))) eI)
def start (J:Pt->aH)(x0 x1:aC):aH:=(cond (decide ((x0.length:Int)>(x1.length:Int))) bh (J (.p0 x0 x1 0)))
def live:Nat->Live:=fun i=>match i with | 4=>[(0,none),(1,none),(5,none)] | _=>[]
def md (a0 a1:List aa):Bool:=(bif (decide ((a0.length:Int)>(a1.length:Int))) then (false:Bool) else (ec (S:=Unit) (β:=Bool) (fun (i2:Nat) (s4:Unit)=>(cond (!(Z98.md ((a0.getD i2 aa.zero).an) ((a1.getD i2 aa.zero).an))) (.inr (false:Bool)) (.inl ()))) (fun (s4:Unit)=>(true:Bool)) a0.length 0 ()))
def gd (a0 a1:List aa):Prop:=(bM (2^21) (fun y:aa=>aa.Sm (2^21) y) a0)/\(bM (2^21) (fun y:aa=>aa.Sm (2^21) y) a1)
def R:=RR (p2 gd) (u2 md)
def aj {a0 a1}(h:gd a0 a1):R ((a0.map aa.row),(a1.map aa.row))=some (md a0 a1):=aO (a:=(a0,a1)) h
def aW:=CN [pL 141,pL 141] oB RT.dec R
def bw (a0)(a1)(hg:gd a0 a1):∃n,start (iter step n) (a0.map aa.row) (a1.map aa.row)=ret (md a0 a1):=by
 obtain ⟨H0,H1⟩:=hg
 unfold start md
 try simp only [SS]
 refine gP ret (fun _=>⟨0,rfl⟩) (fun c1=>?_)
 have dc1:=c1
 try simp only [DC] at dc1
 have Bh3:a0.length<=maxLen:=(by
   have:=(H0).1
   try simp only [maxLen] at *
   omega)
 refine dM (p:=Pt.p0 (a0.map aa.row) (a1.map aa.row) 0) fz ?_
 refine cm (pt:=fun (i2:Nat) (s4:Unit)=>Pt.p0 (a0.map aa.row) (a1.map aa.row) (i2:Int)) (s:=(():Unit)) (out:=ret) (fun _ _=>True) (fun J i2 s4 h3 hih3=>?_) (fun s4 hih3=>?_) trivial
 ·simp only [step,SS]
  have bb_:=Bh3
  simp only [maxLen] at bb_
  have:=(H0).1
  refine bz.yes (by apply decide_eq_true;omega) ?_
  refine bz.yes aJ ?_
  refine bz.yes (aN h3) ?_
  refine bz.yes aJ ?_
  refine bz.yes (have:=(H1).1;dt) ?_
  refine cr (Z98.aj ⟨(bM.getD (z:=aa.zero) H0 h3).1,(bM.getD (z:=aa.zero) H1 (by first | assumption | omega | (simp (disch:=omega) only [wi];omega) | (simp;omega))).1⟩) ?_
  refine bz.bif (fun _=>bz.inr rfl) (fun c5=>?_)
  refine bz.inl trivial ?_
  rw [aG h3 Bh3]
  all_goals exact fz
 ·simp only [step,SS]
  have:=(H0).1
  refine dx (by apply decide_eq_false;omega) ?_
  refine ⟨0,?_⟩
  all_goals exact fz
def af:cy 155 aW:=L2 29 pid cj cg live step start mix aF bw (.cons Z98.af .nil) Tryz.func155
end Z99
namespace Z100
def F (x0:bu)(x1:aC):aH:=(call (Z69.R x1) fun v1=>(cond (!v1) (ret (6:Int)) (bZ (decide ((0:Int)<(x1.length:Int))) (call (Z97.R (x0,(aP.at x1 0).an.bD)) fun v2=>(cond (decide (v2<0)) (ret (1:Int)) (m2 v2 (x0.aI.length:Int) (call (Z99.R ((oy x0.aI (toNat v2)),x1)) fun v3=>(m2 v2 (x0.aI.length:Int) (call (Z99.R (x1,(oy x0.aI (toNat v2)))) fun v4=>(cond v3 (cond v4 (ret (2:Int)) (cond v3 (ret (3:Int)) (cond v4 (ret (4:Int)) (ret (5:Int))))) (cond v3 (ret (3:Int)) (cond v4 (ret (4:Int)) (ret (5:Int))))))))))))))
def md (a0:aq)(a1:List aa):Int:=(cond (!(Z69.md a1)) (6:Int) (cond (decide ((Z97.md a0 (((a1.getD 0 aa.zero).an).bD))<0)) (1:Int) (cond (Z99.md (a0.aI.getD (toNat (Z97.md a0 (((a1.getD 0 aa.zero).an).bD))) []) a1) (cond (Z99.md a1 (a0.aI.getD (toNat (Z97.md a0 (((a1.getD 0 aa.zero).an).bD))) [])) (2:Int) (cond (Z99.md (a0.aI.getD (toNat (Z97.md a0 (((a1.getD 0 aa.zero).an).bD))) []) a1) (3:Int) (cond (Z99.md a1 (a0.aI.getD (toNat (Z97.md a0 (((a1.getD 0 aa.zero).an).bD))) [])) (4:Int) (5:Int)))) (cond (Z99.md (a0.aI.getD (toNat (Z97.md a0 (((a1.getD 0 aa.zero).an).bD))) []) a1) (3:Int) (cond (Z99.md a1 (a0.aI.getD (toNat (Z97.md a0 (((a1.getD 0 aa.zero).an).bD))) [])) (4:Int) (5:Int))))))
def gd (a0:aq)(a1:List aa):Prop:=(aq.Sm (2^21) a0)/\(bM (2^21) (fun y:aa=>aa.Sm (2^21) y) a1)
def R:=RR (p2 gd) (u2 md)
def aj {a0 a1}(h:gd a0 a1):R ((aq.r a0),(a1.map aa.row))=some (md a0 a1):=aO (a:=(a0,a1)) h
def aW:=CN [.agg tE,pL 141] oI RT.dec R
def bw (a0)(a1)(hg:gd a0 a1):F (aq.r a0) (a1.map aa.row)=ret (md a0 a1):=by
 obtain ⟨H0,H1⟩:=hg
 unfold F md
 try simp only [SS]
 refine ct (Z69.aj H1) ?_
 refine au ret (fun _=>rfl) (fun c1=>?_)
 have dc1:=c1
 try simp only [DC] at dc1
 try have tc1:=Z69.tr (by simpa using c1)
 refine ak (have:=(H1).1;dt) ?_
 refine ct (Z97.aj H0) ?_
 have fv2_:=Z97.fa a0 (((a1.getD 0 aa.zero).an).bD)
 refine au ret (fun _=>rfl) (fun c2=>?_)
 have dc2:=c2
 try simp only [DC] at dc2
 refine ak dt ?_
 refine ak (have:=(H0.1).1;dt) ?_
 refine ct (Z99.aj ⟨(bM.getD (z:=[]) H0.1 (by first | assumption | omega | (simp (disch:=omega) only [wi];omega) | (simp;omega))),H1⟩) ?_
 refine ak dt ?_
 refine ak (have:=(H0.1).1;dt) ?_
 refine ct (Z99.aj ⟨H1,(bM.getD (z:=[]) H0.1 (by first | assumption | omega | (simp (disch:=omega) only [wi];omega) | (simp;omega)))⟩) ?_
 refine au ret (fun c3=>?_) (fun c3=>?_)
 ·refine au ret (fun _=>rfl) (fun c4=>?_)
  refine au ret (fun _=>rfl) (fun c5=>?_)
  refine au ret (fun _=>rfl) (fun _=>rfl)
 ·refine au ret (fun _=>rfl) (fun c7=>?_)
  refine au ret (fun _=>rfl) (fun _=>rfl)
def af:cy 123 aW:=W2 43 F mix aF bw (.cons Z69.af (.cons Z97.af (.cons Z99.af .nil))) Tryz.func123
def fa (a0:aq)(a1:List aa):(md a0 a1=3->1<=a1.length/\0<=Z97.md a0 (a1.getD 0 aa.zero).an.bD)/\(md a0 a1=5->1<=a1.length/\0<=Z97.md a0 (a1.getD 0 aa.zero).an.bD):=by
 unfold md
 cases h:Z69.md a1
 ·exact ⟨fun h=>by simp at h,fun h=>by simp at h⟩
 ·have t:=Z69.tr h
  cases hf:decide (Z97.md a0 ((a1.getD 0 aa.zero).an.bD)<0)
  ·have:=of_decide_eq_false hf
   exact ⟨fun _=>⟨t.1,by omega⟩,fun _=>⟨t.1,by omega⟩⟩
  ·exact ⟨fun h=>by simp at h,fun h=>by simp at h⟩
end Z100
namespace Z101
inductive Pt where
 | p0 (a b:aC) (c d e f g h i j k l m n o:Int) (p:Bool) (q s t u v w y z w24 w25 w26 w27:Int) (w28:Bool) (w29 w30 w31 w32 w33 w34 w35 w36 w37 w38 w39 w40:Int) (w41:Bool)
def pid:Pt->Nat
 | .p0 ..=>4
def cj:Pt->List V
 | .p0 a b c d e f g h i j k l m n o p q s t u v w y z w24 w25 w26 w27 w28 w29 w30 w31 w32 w33 w34 w35 w36 w37 w38 w39 w40 w41=>[.sl none 141 a,.sl none 141 b,.cK 0 0,.int .i64 c]
def cg:Pt->List aV
 | .p0 a b c d e f g h i j k l m n o p q s t u v w y z w24 w25 w26 w27 w28 w29 w30 w31 w32 w33 w34 w35 w36 w37 w38 w39 w40 w41=>[.box [.int .i64 d,.int .i64 e,.int .i64 f,.int .i64 g,.int .i64 h,.int .i64 i,.int .i64 j,.int .i64 k,.nil,.int .i64 l,.nil,.int .i64 m,.int .i64 n,.nil,.int .i64 o,.bool p,.nil,.int .i64 q,.int .i64 s,.int .i64 t,.int .i64 u,.int .i64 v,.int .i64 w,.int .i64 y,.int .i64 z,.nil,.int .i64 w24,.nil,.int .i64 w25,.int .i64 w26,.nil,.int .i64 w27,.bool w28,.nil,.int .i64 w29,.int .i64 w30,.int .i64 w31,.int .i64 w32,.int .i64 w33,.int .i64 w34,.int .i64 w35,.int .i64 w36,.nil,.int .i64 w37,.nil,.int .i64 w38,.int .i64 w39,.nil,.int .i64 w40,.bool w41,.nil]]
def step (J:Pt->aH):Pt->aH
 | .p0 a b c d e f g h i j k l m n o p q s t u v w y z w24 w25 w26 w27 w28 w29 w30 w31 w32 w33 w34 w35 w36 w37 w38 w39 w40 w41=>(cond (decide (c<(a.length:Int))) (cond (decide (c<(b.length:Int))) (m2 c (a.length:Int) (m2 c (b.length:Int) (call (Z98.R ((aP.at a (toNat c)).an,(aP.at b (toNat c)).an)) fun v1=>(cond v1 (J (.p0 a b (i64.wrap (c+1)) d e f g h i j k l m n o p q s t u v w y z w24 w25 w26 w27 w28 w29 w30 w31 w32 w33 w34 w35 w36 w37 w38 w39 w40 w41)) (m2 c (a.length:Int) (call (Z37.R (aP.at a (toNat c))) fun v2=>(m2 c (b.length:Int) (call (Z37.R (aP.at b (toNat c))) fun v3=>(cond (decide (c>0)) (bZ (decide ((0:Int)<=(i64.wrap (c - 1)))) (bZ (decide ((i64.wrap (c - 1))<(a.length:Int))) (call (Z37.R (aP.at a (toNat (i64.wrap (c - 1))))) fun v4=>ret (((⟨v4,v2,v3⟩:bF),true):bF×Bool)))) (ret (((⟨(⟨(⟨0,0,0,0,0,0,0,0,(⟨[],0⟩:bB),(⟨[],0⟩:bB),0,(⟨[],0⟩:bB),false⟩:bX),[]⟩:aP),v2,v3⟩:bF),true):bF×Bool))))))))))) (m2 c (a.length:Int) (call (Z37.R (aP.at a (toNat c))) fun v5=>(m2 c (b.length:Int) (call (Z37.R (aP.at b (toNat c))) fun v6=>(cond (decide (c>0)) (bZ (decide ((0:Int)<=(i64.wrap (c - 1)))) (bZ (decide ((i64.wrap (c - 1))<(a.length:Int))) (call (Z37.R (aP.at a (toNat (i64.wrap (c - 1))))) fun v7=>ret (((⟨v7,v5,v6⟩:bF),true):bF×Bool)))) (ret (((⟨(⟨(⟨0,0,0,0,0,0,0,0,(⟨[],0⟩:bB),(⟨[],0⟩:bB),0,(⟨[],0⟩:bB),false⟩:bX),[]⟩:aP),v5,v6⟩:bF),true):bF×Bool)))))))) (m2 c (a.length:Int) (call (Z37.R (aP.at a (toNat c))) fun v8=>(m2 c (b.length:Int) (call (Z37.R (aP.at b (toNat c))) fun v9=>(cond (decide (c>0)) (bZ (decide ((0:Int)<=(i64.wrap (c - 1)))) (bZ (decide ((i64.wrap (c - 1))<(a.length:Int))) (call (Z37.R (aP.at a (toNat (i64.wrap (c - 1))))) fun v10=>ret (((⟨v10,v8,v9⟩:bF),true):bF×Bool)))) (ret (((⟨(⟨(⟨0,0,0,0,0,0,0,0,(⟨[],0⟩:bB),(⟨[],0⟩:bB),0,(⟨[],0⟩:bB),false⟩:bX),[]⟩:aP),v8,v9⟩:bF),true):bF×Bool))))))))
def start (J:Pt->aH)(x0 x1:aC):aH:=(call (Z69.R x0) fun v1=>(cond (!v1) (ret (((⟨(⟨(⟨0,0,0,0,0,0,0,0,(⟨[],0⟩:bB),(⟨[],0⟩:bB),0,(⟨[],0⟩:bB),false⟩:bX),[]⟩:aP),(⟨(⟨0,0,0,0,0,0,0,0,(⟨[],0⟩:bB),(⟨[],0⟩:bB),0,(⟨[],0⟩:bB),false⟩:bX),[]⟩:aP),(⟨(⟨0,0,0,0,0,0,0,0,(⟨[],0⟩:bB),(⟨[],0⟩:bB),0,(⟨[],0⟩:bB),false⟩:bX),[]⟩:aP)⟩:bF),false):bF×Bool)) (call (Z69.R x1) fun v2=>(cond (!v2) (ret (((⟨(⟨(⟨0,0,0,0,0,0,0,0,(⟨[],0⟩:bB),(⟨[],0⟩:bB),0,(⟨[],0⟩:bB),false⟩:bX),[]⟩:aP),(⟨(⟨0,0,0,0,0,0,0,0,(⟨[],0⟩:bB),(⟨[],0⟩:bB),0,(⟨[],0⟩:bB),false⟩:bX),[]⟩:aP),(⟨(⟨0,0,0,0,0,0,0,0,(⟨[],0⟩:bB),(⟨[],0⟩:bB),0,(⟨[],0⟩:bB),false⟩:bX),[]⟩:aP)⟩:bF),false):bF×Bool)) (bZ (decide ((0:Int)<(x0.length:Int))) (bZ (decide ((0:Int)<(x1.length:Int))) (cond ((aP.at x0 0).an.bD != (aP.at x1 0).an.bD) (ret (((⟨(⟨(⟨0,0,0,0,0,0,0,0,(⟨[],0⟩:bB),(⟨[],0⟩:bB),0,(⟨[],0⟩:bB),false⟩:bX),[]⟩:aP),(⟨(⟨0,0,0,0,0,0,0,0,(⟨[],0⟩:bB),(⟨[],0⟩:bB),0,(⟨[],0⟩:bB),false⟩:bX),[]⟩:aP),(⟨(⟨0,0,0,0,0,0,0,0,(⟨[],0⟩:bB),(⟨[],0⟩:bB),0,(⟨[],0⟩:bB),false⟩:bX),[]⟩:aP)⟩:bF),false):bF×Bool)) (call (Z99.R (x0,x1)) fun v3=>(cond v3 (ret (((⟨(⟨(⟨0,0,0,0,0,0,0,0,(⟨[],0⟩:bB),(⟨[],0⟩:bB),0,(⟨[],0⟩:bB),false⟩:bX),[]⟩:aP),(⟨(⟨0,0,0,0,0,0,0,0,(⟨[],0⟩:bB),(⟨[],0⟩:bB),0,(⟨[],0⟩:bB),false⟩:bX),[]⟩:aP),(⟨(⟨0,0,0,0,0,0,0,0,(⟨[],0⟩:bB),(⟨[],0⟩:bB),0,(⟨[],0⟩:bB),false⟩:bX),[]⟩:aP)⟩:bF),false):bF×Bool)) (call (Z99.R (x1,x0)) fun v4=>(cond v4 (ret (((⟨(⟨(⟨0,0,0,0,0,0,0,0,(⟨[],0⟩:bB),(⟨[],0⟩:bB),0,(⟨[],0⟩:bB),false⟩:bX),[]⟩:aP),(⟨(⟨0,0,0,0,0,0,0,0,(⟨[],0⟩:bB),(⟨[],0⟩:bB),0,(⟨[],0⟩:bB),false⟩:bX),[]⟩:aP),(⟨(⟨0,0,0,0,0,0,0,0,(⟨[],0⟩:bB),(⟨[],0⟩:bB),0,(⟨[],0⟩:bB),false⟩:bX),[]⟩:aP)⟩:bF),false):bF×Bool)) (J (.p0 x0 x1 0 0 0 0 0 0 0 0 0 0 0 0 0 false 0 0 0 0 0 0 0 0 0 0 0 0 false 0 0 0 0 0 0 0 0 0 0 0 0 false)))))))))))))
def live:Nat->Live:=fun i=>match i with | 4=>[(0,none),(1,none),(4,none),(6,none)] | _=>[]
def pt (a b:aC)(c:Int):Pt:=Pt.p0 a b c 0 0 0 0 0 0 0 0 0 0 0 0 false 0 0 0 0 0 0 0 0 0 0 0 0 false 0 0 0 0 0 0 0 0 0 0 0 0 false
def fk:List aa->List aa->Nat
 | x::xs,y::ys=>bif Z98.md x.an y.an then fk xs ys+1 else 0
 | _,_=>0
def pQ:∀a b:List aa,(∀i,i<fk a b->Z98.md (a.getD i aa.zero).an (b.getD i aa.zero).an=true)/\
    ((fk a b<a.length/\fk a b<b.length/\Z98.md (a.getD (fk a b) aa.zero).an (b.getD (fk a b) aa.zero).an=false)∨
     (a.length<=b.length/\∀i,i<a.length->Z98.md (a.getD i aa.zero).an (b.getD i aa.zero).an=true)∨
     (b.length<=a.length/\∀i,i<b.length->Z98.md (a.getD i aa.zero).an (b.getD i aa.zero).an=true))
  | [],b=>⟨fun i hi=>by simp [fk] at hi,.inr (.inl ⟨zero_le _,fun i hi=>by simp at hi⟩)⟩
  | x::xs,[]=>⟨fun i hi=>by simp [fk] at hi,.inr (.inr ⟨zero_le _,fun i hi=>by simp at hi⟩)⟩
  | x::xs,y::ys=>by
    obtain ⟨h1,h2⟩:=pQ xs ys
    cases h:Z98.md x.an y.an
    · have e:fk (x::xs) (y::ys)=0:=by simp [fk,h]
      rw [e]
      exact ⟨fun i hi=>by omega,.inl ⟨by simp,by simp,h⟩⟩
    · have e:fk (x::xs) (y::ys)=fk xs ys+1:=by simp [fk,h]
      rw [e]
      have up:∀{m:Nat},(∀i,i<m->Z98.md (xs.getD i aa.zero).an (ys.getD i aa.zero).an=true)->∀i,i<m+1->Z98.md ((x::xs).getD i aa.zero).an ((y::ys).getD i aa.zero).an=true:=by
        intro m hm i hi
        cases i with
        | zero=>exact h
        | succ i=>exact hm i (by omega)
      refine ⟨up h1,?_⟩
      rcases h2 with ⟨a,b,c⟩ | ⟨a,b⟩ | ⟨a,b⟩
      · exact .inl ⟨by simpa using a,by simpa using b,c⟩
      · exact .inr (.inl ⟨by simpa using a,up b⟩)
      · exact .inr (.inr ⟨by simpa using a,up b⟩)
def xx {a b:List aa}(hl:a.length<=b.length)(h:∀i,i<a.length->Z98.md (a.getD i aa.zero).an (b.getD i aa.zero).an=true):Z99.md a b=true:=by
 unfold Z99.md
 rw [decide_eq_false (by omega),bq]
 refine (jl (fun i=>Z98.md (a.getD i aa.zero).an (b.getD i aa.zero).an=true) (fun i _ hi=>?_) (fun i _ hi=>?_)).2 ⟨h,rfl⟩
 ·simp only [hi,Bool.not_true,bq]
 ·rw [Bool.not_eq_true] at hi
  simp only [hi,Bool.not_false,bg]
def eq_comm {a b:aE}(h:Z98.md a b=true):Z98.md b a=true:=by
 rw [Z98.md_eq,cZ] at h ⊢
 exact h.symm
def lB {a b:List aa}(h1:Z99.md a b=false)(h2:Z99.md b a=false):fk a b<a.length/\fk a b<b.length/\Z98.md (a.getD (fk a b) aa.zero).an (b.getD (fk a b) aa.zero).an=false:=by
 rcases (pQ a b).2 with h | ⟨h3,h4⟩ | ⟨h3,h4⟩
 ·exact h
 ·rw [xx h3 h4] at h1;cases h1
 ·rw [xx h3 fun i hi=>eq_comm (h4 i hi)] at h2;cases h2
def tI (a b:List aa):Nat->az
 | 0=>⟨aa.zero,a.getD 0 aa.zero,b.getD 0 aa.zero⟩
 | k+1=>⟨a.getD k aa.zero,a.getD (k+1) aa.zero,b.getD (k+1) aa.zero⟩
def vY {a b:List aa}(h0:bM (2^21) (fun y:aa=>aa.Sm (2^21) y) a)(h1:bM (2^21) (fun y:aa=>aa.Sm (2^21) y) b){k:Nat}(hk:k<a.length)(hk2:k<b.length):az.Sm (2^21) (tI a b k):=by
 cases k with
 | zero=>exact ⟨⟨⟨bM.nil,bM.nil,bM.nil⟩,bM.nil⟩,bM.getD h0 hk,bM.getD h1 hk2⟩
 | succ k=>exact ⟨bM.getD h0 (by omega),bM.getD h0 hk,bM.getD h1 hk2⟩
def zg {a b:List aa}{k:Nat}(hk:k<a.length)(hk2:k<b.length):az.size (tI a b k)<=2*dP (fun y:aa=>aa.size y) a+dP (fun y:aa=>aa.size y) b:=by
 have h1:=ni (f:=fun y:aa=>aa.size y) (xs:=b) (i:=k) (z:=aa.zero) hk2
 have h2:=ni (f:=fun y:aa=>aa.size y) (xs:=a) (i:=k) (z:=aa.zero) hk
 have h0:aa.size aa.zero=0:=rfl
 cases k with
 | zero=>simp only [tI,az.size];omega
 | succ k=>
  have h3:=ni (f:=fun y:aa=>aa.size y) (xs:=a) (i:=k) (z:=aa.zero) (by omega)
  simp only [tI,az.size];omega
def md (a0 a1:List aa):az×Bool:=(cond (!(Z69.md a0)) (az.zero,false) (cond (!(Z69.md a1)) (az.zero,false) (cond (((a0.getD 0 aa.zero).an).bD != ((a1.getD 0 aa.zero).an).bD) (az.zero,false) (cond (Z99.md a0 a1) (az.zero,false) (cond (Z99.md a1 a0) (az.zero,false) (tI a0 a1 (fk a0 a1),true))))))
def gd (a0 a1:List aa):Prop:=bM (2^21) (fun y:aa=>aa.Sm (2^21) y) a0/\bM (2^21) (fun y:aa=>aa.Sm (2^21) y) a1
def R:=RR (p2 gd) (u2 md)
def aj {a0 a1}(h:gd a0 a1):R ((a0.map aa.row),(a1.map aa.row))=some ((az.r (md a0 a1).1),(md a0 a1).2):=aO (a:=(a0,a1)) h
def aW:=CN [pL 141,pL 141] (.iH [(true,f143),(false,[fB])]) RT.dec R
def bw (a0)(a1)(hg:gd a0 a1):∃n,start (iter step n) (a0.map aa.row) (a1.map aa.row)=ret ((az.r (md a0 a1).1),(md a0 a1).2):=by
 unfold gd at hg
 obtain ⟨H0,H1⟩:=hg
 have hl0:=H0.1
 have hl1:=H1.1
 have key:fk a0 a1<a0.length->fk a0 a1<a1.length->Z98.md (a0.getD (fk a0 a1) aa.zero).an (a1.getD (fk a0 a1) aa.zero).an=false->∀d k,k+d=fk a0 a1->∃n,iter step n (pt (a0.map aa.row) (a1.map aa.row) (k:Int))=ret ((az.r (tI a0 a1 (fk a0 a1)),true):bF×Bool):=by
  intro hn0 hn1 hne d
  have hR:∀k,k<a0.length->k<a1.length->Z98.R (aE.r (a0.getD k aa.zero).an,aE.r (a1.getD k aa.zero).an)=some (Z98.md (a0.getD k aa.zero).an (a1.getD k aa.zero).an):=by
   intro k h0 h1
   rw [Z98.aj ⟨(bM.getD (z:=aa.zero) H0 h0).1,(bM.getD (z:=aa.zero) H1 h1).1⟩]
  induction d with
  | zero=>
   intro k hk
   obtain rfl:k=fk a0 a1:=by omega
   generalize hkk:fk a0 a1=k at hn0 hn1 hne ⊢
   refine ⟨1,?_⟩
   show step (iter step 0) _=_
   have q1:(0:Int)<=(k:Int):=by omega
   have q2:(k:Int)<(a0.length:Int):=by omega
   have q3:(k:Int)<(a1.length:Int):=by omega
   simp only [pt,step,MM,S0,aa.rs,aE.rs,q1,q2,q3,decide_true,bg]
   rw [call_eq (hR k hn0 hn1),hne,bq,call_eq (Z37.aj (a0:=a0.getD k aa.zero) (bM.getD (z:=aa.zero) H0 hn0)),call_eq (Z37.aj (a0:=a1.getD k aa.zero) (bM.getD (z:=aa.zero) H1 hn1))]
   cases k with
   | zero=>rfl
   | succ k=>
    have q4:((k+1:Nat):Int)>0:=by omega
    have q5:i64.wrap (((k+1:Nat):Int) - 1)=(k:Int):=by rw [wi _ (by omega)];omega
    have q6:(0:Int)<=(k:Int):=by omega
    have q7:(k:Int)<(a0.length:Int):=by omega
    simp only [q4,q5,q6,q7,decide_true,bg,S0,aa.rs]
    rw [call_eq (Z37.aj (a0:=a0.getD k aa.zero) (bM.getD (z:=aa.zero) H0 (by omega)))]
    rfl
  | succ d ih=>
   intro k hk
   obtain ⟨n,hn⟩:=ih (k+1) (by omega)
   refine ⟨n+1,?_⟩
   show step (iter step n) _=_
   have q1:(0:Int)<=(k:Int):=by omega
   have q2:(k:Int)<(a0.length:Int):=by omega
   have q3:(k:Int)<(a1.length:Int):=by omega
   simp only [pt,step,MM,S0,aa.rs,aE.rs,q1,q2,q3,decide_true,bg]
   rw [call_eq (hR k (by omega) (by omega)),(pQ a0 a1).1 k (by omega),bg,wi _ (by omega)]
   exact hn
 unfold start md
 simp only [S0,aa.rs,aE.rs]
 refine eU (Z69.md a0) (Z69.aj H0) ?_
 cases hc0:Z69.md a0
 ·exact ⟨0,rfl⟩
 simp only [Bool.not_true,bq]
 refine eU (Z69.md a1) (Z69.aj H1) ?_
 cases hc1:Z69.md a1
 ·exact ⟨0,rfl⟩
 have t0:=Z69.tr hc0
 have t1:=Z69.tr hc1
 simp only [Bool.not_true,bq]
 refine dH (decide_eq_true (by omega)) (dH (decide_eq_true (by omega)) ?_)
 cases ((a0.getD 0 aa.zero).an.bD != (a1.getD 0 aa.zero).an.bD)
 case true=>exact ⟨0,rfl⟩
 simp only [bq]
 refine eU (Z99.md a0 a1) (Z99.aj ⟨H0,H1⟩) ?_
 cases hp0:Z99.md a0 a1
 case true=>exact ⟨0,rfl⟩
 simp only [bq]
 refine eU (Z99.md a1 a0) (Z99.aj ⟨H1,H0⟩) ?_
 cases hp1:Z99.md a1 a0
 case true=>exact ⟨0,rfl⟩
 simp only [bq]
 obtain ⟨h1,h2,h3⟩:=lB hp0 hp1
 exact key h1 h2 h3 (fk a0 a1) 0 (by omega)
def af:cy 125 aW:=L2 86 pid cj cg live step start mix aF bw (.cons Z69.af (.cons Z99.af (.cons Z98.af (.cons Z37.af .nil)))) Tryz.func125
def gb {a0 a1:List aa}(hg:gd a0 a1):az.Sm (2^21) ((md a0 a1).1):=by
 unfold gd at hg;unfold md
 have z:az.Sm (2^21) az.zero:=⟨⟨⟨bM.nil,bM.nil,bM.nil⟩,bM.nil⟩,⟨⟨bM.nil,bM.nil,bM.nil⟩,bM.nil⟩,⟨⟨bM.nil,bM.nil,bM.nil⟩,bM.nil⟩⟩
 cases Z69.md a0
 ·exact z
 cases Z69.md a1
 ·exact z
 cases ((a0.getD 0 aa.zero).an.bD != (a1.getD 0 aa.zero).an.bD)
 case true=>exact z
 cases h1:Z99.md a0 a1
 case true=>exact z
 cases h2:Z99.md a1 a0
 case true=>exact z
 obtain ⟨h3,h4,_⟩:=Z101.lB h1 h2
 exact Z101.vY hg.1 hg.2 h3 h4
end Z101
end Go.DM
end
