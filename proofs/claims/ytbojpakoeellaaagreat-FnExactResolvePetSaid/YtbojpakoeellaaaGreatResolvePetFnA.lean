/- What the functions compute that the law reaches, and that the law returns true. Conditions: none. -/
import Derived.Test.YtbojpakoeellaaaGreatResolvePetTy
import Derived.Test.YtbojpakoeellaaaGreatProg
import Derived.Lib.AppendZerosOnto
import Derived.Lib.Bytealg
import Derived.Laws.Externs
import Derived.Lib.Walk
import Derived.Lib.Hide
import Derived.Lib.Strings
set_option linter.all false
set_option maxRecDepth 100000
noncomputable section
namespace Go.DM
open Go.Proofs
open Go.IntKind (i64)
open Int (toNat)
open Nat (le_trans zero_le)
abbrev aD:=K.int .i64
abbrev aY:=ret (false:Bool)
abbrev ep:=ret (true:Bool)
abbrev fu (b:Int):Bool:=Nat.beq (toNat b) (toNat b)&&true
abbrev k7:List K:=[aD,aD,.bool,.int .u8]
abbrev f7:List Lf:=[fI,fI,fB,.rd (.int .u8)]
abbrev k8:List K:=[aD,aD,.bool,.int .u8]
abbrev f8:List Lf:=[fI,fI,fB,.rd (.int .u8)]
abbrev ry:List K:=[.str,.int .u64]
abbrev f13:List Lf:=[fS,.rd (.int .u64)]
abbrev qY:List K:=[.str,.int .u64]
abbrev f14:List Lf:=[fS,.rd (.int .u64)]
abbrev BX:List K:=[.sl 122,.sl 132]
abbrev f24:List Lf:=[.fr 122,.fr 132]
abbrev Bq:List K:=[.sl 122,.sl 132]
abbrev f25:List Lf:=[.fr 122,.fr 132]
abbrev B2:List K:=[.sl 134,.sl 143]
abbrev f36:List Lf:=[.fr 134,.fr 143]
abbrev rK:List K:=[.sl 134,.sl 143]
abbrev f37:List Lf:=[.fr 134,.fr 143]
abbrev BZ:List K:=[.str,aD,aD,.sl 9]
abbrev f56:List Lf:=[fS,fI,fI,.fr 9]
abbrev qX:List K:=[.str,aD,aD,.sl 9]
abbrev f57:List Lf:=[fS,fI,fI,.fr 9]
abbrev B1:List K:=[.sl 134,.sl 143,aD,.str,aD,aD,.sl 9,.sl 3,aD]
abbrev f59:List Lf:=[.fr 134,.fr 143,fI,fS,fI,fI,.fr 9,.fr 3,fI]
abbrev Bl:List K:=[.sl 134,.sl 143,aD,.str,aD,aD,.sl 9,.sl 3,aD]
abbrev f60:List Lf:=[.fr 134,.fr 143,fI,fS,fI,fI,.fr 9,.fr 3,fI]
abbrev B3:List K:=[.sl 183,aD]
abbrev f77:List Lf:=[.fr 183,fI]
abbrev Bs:List K:=[.sl 183,aD]
abbrev f78:List Lf:=[.fr 183,fI]
abbrev B4:List K:=[.str,aD]
abbrev f80:List Lf:=[fS,fI]
abbrev BW:List K:=[.str,aD]
abbrev f81:List Lf:=[fS,fI]
abbrev BY:List K:=[.str,aD]
abbrev f83:List Lf:=[fS,fI]
abbrev BV:List K:=[.sl 155,aD]
abbrev f87:List Lf:=[.fr 155,fI]
abbrev Ba:List K:=[.sl 155,aD]
abbrev f88:List Lf:=[.fr 155,fI]
abbrev Bu:List K:=[.sl 134,.sl 143,.bool,.str,aD,aD,.sl 9,.bool,.sl 3]
abbrev f101:List Lf:=[.fr 134,.fr 143,fB,fS,fI,fI,.fr 9,fB,.fr 3]
abbrev Ak:List K:=[.sl 134,.sl 143,.bool,.str,aD,aD,.sl 9,.bool,.sl 3]
abbrev f102:List Lf:=[.fr 134,.fr 143,fB,fS,fI,fI,.fr 9,fB,.fr 3]
abbrev AK:List K:=[.str,aD]
abbrev f115:List Lf:=[fS,fI]
abbrev AM:List K:=[.str,aD]
abbrev f118:List Lf:=[fS,fI]
abbrev By:List K:=[.sl 3,aD]
abbrev f124:List Lf:=[.fr 3,fI]
abbrev Ae:List K:=[.sl 3,aD]
abbrev f125:List Lf:=[.fr 3,fI]
abbrev Bv:List K:=[aD,aD,aD,aD,aD,aD,aD,aD,.sl 3,aD,.sl 3,aD,aD,.sl 3,aD,.bool]
abbrev f126:List Lf:=[fI,fI,fI,fI,fI,fI,fI,fI,.fr 3,fI,.fr 3,fI,fI,.fr 3,fI,fB]
abbrev Ao:List K:=[aD,aD,aD,aD,aD,aD,aD,aD,.sl 3,aD,.sl 3,aD,aD,.sl 3,aD,.bool]
abbrev f127:List Lf:=[fI,fI,fI,fI,fI,fI,fI,fI,.fr 3,fI,.fr 3,fI,fI,.fr 3,fI,fB]
abbrev BN:List K:=[aD,aD,aD,aD,aD,aD,aD,aD,.sl 3,aD,.sl 3,aD,aD,.sl 3,aD,.bool,.sl 238]
abbrev f129:List Lf:=[fI,fI,fI,fI,fI,fI,fI,fI,.fr 3,fI,.fr 3,fI,fI,.fr 3,fI,fB,.fr 238]
abbrev Ah:List K:=[aD,aD,aD,aD,aD,aD,aD,aD,.sl 3,aD,.sl 3,aD,aD,.sl 3,aD,.bool,.sl 238]
abbrev f130:List Lf:=[fI,fI,fI,fI,fI,fI,fI,fI,.fr 3,fI,.fr 3,fI,fI,.fr 3,fI,fB,.fr 238]
abbrev BH:List K:=[aD,aD,aD,aD,aD,aD,aD,aD,.sl 3,aD,.sl 3,aD,aD,.sl 3,aD,.bool,.sl 238,aD,aD,aD,aD,aD,aD,aD,aD,.sl 3,aD,.sl 3,aD,aD,.sl 3,aD,.bool,.sl 238,aD,aD,aD,aD,aD,aD,aD,aD,.sl 3,aD,.sl 3,aD,aD,.sl 3,aD,.bool,.sl 238]
abbrev f131:List Lf:=[fI,fI,fI,fI,fI,fI,fI,fI,.fr 3,fI,.fr 3,fI,fI,.fr 3,fI,fB,.fr 238,fI,fI,fI,fI,fI,fI,fI,fI,.fr 3,fI,.fr 3,fI,fI,.fr 3,fI,fB,.fr 238,fI,fI,fI,fI,fI,fI,fI,fI,.fr 3,fI,.fr 3,fI,fI,.fr 3,fI,fB,.fr 238]
abbrev Ar:List K:=[aD,aD,aD,aD,aD,aD,aD,aD,.sl 3,aD,.sl 3,aD,aD,.sl 3,aD,.bool,.sl 238,aD,aD,aD,aD,aD,aD,aD,aD,.sl 3,aD,.sl 3,aD,aD,.sl 3,aD,.bool,.sl 238,aD,aD,aD,aD,aD,aD,aD,aD,.sl 3,aD,.sl 3,aD,aD,.sl 3,aD,.bool,.sl 238]
abbrev f132:List Lf:=[fI,fI,fI,fI,fI,fI,fI,fI,.fr 3,fI,.fr 3,fI,fI,.fr 3,fI,fB,.fr 238,fI,fI,fI,fI,fI,fI,fI,fI,.fr 3,fI,.fr 3,fI,fI,.fr 3,fI,fB,.fr 238,fI,fI,fI,fI,fI,fI,fI,fI,.fr 3,fI,.fr 3,fI,fI,.fr 3,fI,fB,.fr 238]
abbrev iU:List K:=[.sl 3,aD]
abbrev f136:List Lf:=[.fr 3,fI]
abbrev BP:List K:=[aD,aD,aD,aD,aD,aD,aD,aD,.sl 3,aD,.sl 3,aD,aD,.sl 3,aD,.bool]
abbrev f137:List Lf:=[fI,fI,fI,fI,fI,fI,fI,fI,.fr 3,fI,.fr 3,fI,fI,.fr 3,fI,fB]
abbrev fW:List K:=[aD,aD,aD,aD,aD,aD,aD,aD,.sl 3,aD,.sl 3,aD,aD,.sl 3,aD,.bool]
abbrev f138:List Lf:=[fI,fI,fI,fI,fI,fI,fI,fI,.fr 3,fI,.fr 3,fI,fI,.fr 3,fI,fB]
abbrev Bx:List K:=[aD,aD,aD,aD,aD,aD,aD,aD,.sl 3,aD,.sl 3,aD,aD,.sl 3,aD,.bool,.sl 190]
abbrev f140:List Lf:=[fI,fI,fI,fI,fI,fI,fI,fI,.fr 3,fI,.fr 3,fI,fI,.fr 3,fI,fB,.fr 190]
abbrev kE:List K:=[aD,aD,aD,aD,aD,aD,aD,aD,.sl 3,aD,.sl 3,aD,aD,.sl 3,aD,.bool,.sl 190]
abbrev f141:List Lf:=[fI,fI,fI,fI,fI,fI,fI,fI,.fr 3,fI,.fr 3,fI,fI,.fr 3,fI,fB,.fr 190]
abbrev BM:List K:=[aD,aD,aD,aD,aD,aD,aD,aD,.sl 3,aD,.sl 3,aD,aD,.sl 3,aD,.bool,.sl 190,aD,aD,aD,aD,aD,aD,aD,aD,.sl 3,aD,.sl 3,aD,aD,.sl 3,aD,.bool,.sl 190,aD,aD,aD,aD,aD,aD,aD,aD,.sl 3,aD,.sl 3,aD,aD,.sl 3,aD,.bool,.sl 190]
abbrev f142:List Lf:=[fI,fI,fI,fI,fI,fI,fI,fI,.fr 3,fI,.fr 3,fI,fI,.fr 3,fI,fB,.fr 190,fI,fI,fI,fI,fI,fI,fI,fI,.fr 3,fI,.fr 3,fI,fI,.fr 3,fI,fB,.fr 190,fI,fI,fI,fI,fI,fI,fI,fI,.fr 3,fI,.fr 3,fI,fI,.fr 3,fI,fB,.fr 190]
abbrev sO:List K:=[aD,aD,aD,aD,aD,aD,aD,aD,.sl 3,aD,.sl 3,aD,aD,.sl 3,aD,.bool,.sl 190,aD,aD,aD,aD,aD,aD,aD,aD,.sl 3,aD,.sl 3,aD,aD,.sl 3,aD,.bool,.sl 190,aD,aD,aD,aD,aD,aD,aD,aD,.sl 3,aD,.sl 3,aD,aD,.sl 3,aD,.bool,.sl 190]
abbrev f143:List Lf:=[fI,fI,fI,fI,fI,fI,fI,fI,.fr 3,fI,.fr 3,fI,fI,.fr 3,fI,fB,.fr 190,fI,fI,fI,fI,fI,fI,fI,fI,.fr 3,fI,.fr 3,fI,fI,.fr 3,fI,fB,.fr 190,fI,fI,fI,fI,fI,fI,fI,fI,.fr 3,fI,.fr 3,fI,fI,.fr 3,fI,fB,.fr 190]
abbrev Bw:List K:=[.sl 141,.sl 57]
abbrev f154:List Lf:=[.fr 141,.fr 57]
abbrev sG:List K:=[.sl 141,.sl 57]
abbrev f155:List Lf:=[.fr 141,.fr 57]
abbrev BB:List K:=[aD,.sl 3]
abbrev f160:List Lf:=[fI,.fr 3]
abbrev qW:List K:=[aD,.sl 3]
abbrev f161:List Lf:=[fI,.fr 3]
abbrev Br:List K:=[aD,.str,aD,aD,.sl 9,.str,aD,aD,.sl 9,aD,.sl 3,aD,.sl 3]
abbrev f162:List Lf:=[fI,fS,fI,fI,.fr 9,fS,fI,fI,.fr 9,fI,.fr 3,fI,.fr 3]
abbrev vD:List K:=[aD,.str,aD,aD,.sl 9,.str,aD,aD,.sl 9,aD,.sl 3,aD,.sl 3]
abbrev f163:List Lf:=[fI,fS,fI,fI,.fr 9,fS,fI,fI,.fr 9,fI,.fr 3,fI,.fr 3]
abbrev BF:List K:=[.sl 141,.bool,.str,aD,aD,.sl 9,aD,.sl 3,aD,.str,aD,aD,.sl 9,.str,aD,aD,.sl 9,aD,.sl 3,aD,.sl 3]
abbrev f164:List Lf:=[.fr 141,fB,fS,fI,fI,.fr 9,fI,.fr 3,fI,fS,fI,fI,.fr 9,fS,fI,fI,.fr 9,fI,.fr 3,fI,.fr 3]
abbrev xA:List K:=[.sl 141,.bool,.str,aD,aD,.sl 9,aD,.sl 3,aD,.str,aD,aD,.sl 9,.str,aD,aD,.sl 9,aD,.sl 3,aD,.sl 3]
abbrev f165:List Lf:=[.fr 141,fB,fS,fI,fI,.fr 9,fI,.fr 3,fI,fS,fI,fI,.fr 9,fS,fI,fI,.fr 9,fI,.fr 3,fI,.fr 3]
abbrev BG:List K:=[.sl 130,.sl 235]
abbrev f182:List Lf:=[.fr 130,.fr 235]
abbrev Az:List K:=[.sl 130,.sl 235]
abbrev f183:List Lf:=[.fr 130,.fr 235]
abbrev BD:List K:=[aD,aD]
abbrev f189:List Lf:=[fI,fI]
abbrev yN:List K:=[aD,aD]
abbrev f190:List Lf:=[fI,fI]
abbrev AO:List K:=[.str,aD,aD,.sl 9]
abbrev f235:List Lf:=[fS,fI,fI,.fr 9]
abbrev Bb:List K:=[aD,aD]
abbrev f238:List Lf:=[fI,fI]
def kL:List (Nat×TI):=[
 (2,⟨[aD],false,[],8,false⟩),
 (3,⟨[aD],false,[],8,false⟩),
 (4,⟨[.bool],false,[],1,false⟩),
 (5,⟨[.int .u8],false,[],1,false⟩),
 (6,⟨[.int .u8],false,[],1,false⟩),
 (7,⟨k7,true,[(0,2),(1,3),(2,4),(3,6)],24,false⟩),
 (8,⟨k8,true,[(0,2),(1,3),(2,4),(3,6)],24,false⟩),
 (9,⟨[.str],false,[],16,false⟩),
 (10,⟨[.str],false,[],16,false⟩),
 (11,⟨[.str],false,[],16,false⟩),
 (12,⟨[.int .u64],false,[],8,false⟩),
 (13,⟨ry,true,[(0,9),(1,12)],24,false⟩),
 (14,⟨qY,true,[(0,9),(1,12)],24,false⟩),
 (21,⟨[.int .i32],false,[],4,false⟩),
 (22,⟨[.sl 122],false,[],24,false⟩),
 (23,⟨[.sl 132],false,[],24,false⟩),
 (24,⟨BX,true,[(0,22),(1,23)],48,false⟩),
 (25,⟨Bq,true,[(0,22),(1,23)],48,false⟩),
 (26,⟨[.sl 78],false,[],24,false⟩),
 (27,⟨[.sl 81],false,[],24,false⟩),
 (28,⟨[.sl 9],false,[],24,false⟩),
 (33,⟨[.sl 60],false,[],24,false⟩),
 (34,⟨[.sl 134],false,[],24,false⟩),
 (35,⟨[.sl 143],false,[],24,false⟩),
 (36,⟨B2,true,[(0,34),(1,35)],48,false⟩),
 (37,⟨rK,true,[(0,34),(1,35)],48,false⟩),
 (41,⟨[.sl 88],false,[],24,false⟩),
 (43,⟨[.sl 83],false,[],24,false⟩),
 (56,⟨BZ,true,[(0,9),(1,3),(2,3),(3,28)],56,false⟩),
 (57,⟨qX,true,[(0,9),(1,3),(2,3),(3,28)],56,false⟩),
 (58,⟨[.sl 3],false,[],24,false⟩),
 (59,⟨B1,true,[(0,37),(2,3),(3,57),(7,58),(8,3)],144,false⟩),
 (60,⟨Bl,true,[(0,37),(2,3),(3,57),(7,58),(8,3)],144,false⟩),
 (65,⟨[.sl 115],false,[],24,false⟩),
 (68,⟨[.sl 118],false,[],24,false⟩),
 (76,⟨[.sl 183],false,[],24,false⟩),
 (77,⟨B3,true,[(0,76),(1,3)],32,false⟩),
 (78,⟨Bs,true,[(0,76),(1,3)],32,false⟩),
 (80,⟨B4,true,[(0,9),(1,3)],24,false⟩),
 (81,⟨BW,true,[(0,9),(1,3)],24,true⟩),
 (83,⟨BY,true,[(0,9),(1,3)],24,true⟩),
 (86,⟨[.sl 155],false,[],24,false⟩),
 (87,⟨BV,true,[(0,86),(1,3)],32,false⟩),
 (88,⟨Ba,true,[(0,86),(1,3)],32,false⟩),
 (101,⟨Bu,true,[(0,37),(2,4),(3,57),(7,4),(8,58)],144,false⟩),
 (102,⟨Ak,true,[(0,37),(2,4),(3,57),(7,4),(8,58)],144,false⟩),
 (104,⟨[.sl 165],false,[],24,false⟩),
 (115,⟨AK,true,[(0,9),(1,3)],24,true⟩),
 (118,⟨AM,true,[(0,9),(1,3)],24,true⟩),
 (122,⟨[.sl 130],false,[],24,false⟩),
 (124,⟨By,true,[(0,58),(1,3)],32,false⟩),
 (125,⟨Ae,true,[(0,58),(1,3)],32,false⟩),
 (126,⟨Bv,true,[(0,3),(1,3),(2,3),(3,3),(4,3),(5,3),(6,3),(7,3),(8,125),(10,125),(12,3),(13,125),(15,4)],176,false⟩),
 (127,⟨Ao,true,[(0,3),(1,3),(2,3),(3,3),(4,3),(5,3),(6,3),(7,3),(8,125),(10,125),(12,3),(13,125),(15,4)],176,false⟩),
 (128,⟨[.sl 238],false,[],24,false⟩),
 (129,⟨BN,true,[(0,127),(16,128)],200,false⟩),
 (130,⟨Ah,true,[(0,127),(16,128)],200,false⟩),
 (131,⟨BH,true,[(0,130),(17,130),(34,130)],600,false⟩),
 (132,⟨Ar,true,[(0,130),(17,130),(34,130)],600,false⟩),
 (134,⟨[.sl 141],false,[],24,false⟩),
 (136,⟨iU,true,[(0,58),(1,3)],32,false⟩),
 (137,⟨BP,true,[(0,3),(1,3),(2,3),(3,3),(4,3),(5,3),(6,3),(7,3),(8,136),(10,136),(12,3),(13,136),(15,4)],176,false⟩),
 (138,⟨fW,true,[(0,3),(1,3),(2,3),(3,3),(4,3),(5,3),(6,3),(7,3),(8,136),(10,136),(12,3),(13,136),(15,4)],176,false⟩),
 (139,⟨[.sl 190],false,[],24,false⟩),
 (140,⟨Bx,true,[(0,138),(16,139)],200,false⟩),
 (141,⟨kE,true,[(0,138),(16,139)],200,false⟩),
 (142,⟨BM,true,[(0,141),(17,141),(34,141)],600,false⟩),
 (143,⟨sO,true,[(0,141),(17,141),(34,141)],600,false⟩),
 (153,⟨[.sl 57],false,[],24,false⟩),
 (154,⟨Bw,true,[(0,134),(1,153)],48,false⟩),
 (155,⟨sG,true,[(0,134),(1,153)],48,false⟩),
 (157,⟨[.sl 5],false,[],24,false⟩),
 (160,⟨BB,true,[(0,3),(1,58)],32,false⟩),
 (161,⟨qW,true,[(0,3),(1,58)],32,false⟩),
 (162,⟨Br,true,[(0,3),(1,57),(5,57),(9,161),(11,161)],184,false⟩),
 (163,⟨vD,true,[(0,3),(1,57),(5,57),(9,161),(11,161)],184,false⟩),
 (164,⟨BF,true,[(0,134),(1,4),(2,57),(6,161),(8,163)],304,false⟩),
 (165,⟨xA,true,[(0,134),(1,4),(2,57),(6,161),(8,163)],304,false⟩),
 (181,⟨[.sl 235],false,[],24,false⟩),
 (182,⟨BG,true,[(0,122),(1,181)],48,false⟩),
 (183,⟨Az,true,[(0,122),(1,181)],48,false⟩),
 (189,⟨BD,true,[(0,3),(1,3)],16,false⟩),
 (190,⟨yN,true,[(0,3),(1,3)],16,true⟩),
 (235,⟨AO,true,[(0,9),(1,3),(2,3),(3,28)],56,false⟩),
 (238,⟨Bb,true,[(0,3),(1,3)],16,true⟩),
 (286,⟨[.sl 58],false,[],24,false⟩),
 (297,⟨[.int .u32],false,[],4,false⟩),
 (298,⟨[.int .u8],false,[],1,false⟩),
 (299,⟨[.int .u8],false,[],1,false⟩),
 (302,⟨[.int .i32],false,[],4,false⟩),
 (303,⟨[.int .i32],false,[],4,false⟩)]
abbrev Ev:Env:=dA kL
def aE:eH Tryz.prog kL=true:=by kernel_rfl
def mix:Tryz.prog.follows .mixedOrders=true:=by kernel_rfl
abbrev cw:=Valid Tryz.prog Ev
namespace Z0
def F (x0:aC)(x1:Int):aH:=(cond (decide ((i64.wrap (x1 - (x0.length:Int)))<0)) (ret ((-1):Int)) (ret ((i64.wrap (x1 - (x0.length:Int))):Int)))
def md (a0:List Int)(a1:Int):Int:=iC (dO (fun y:Int=>0) a0) a1
def gd (a0:List Int)(a1:Int):Prop:=(bL maxLen (fun y:Int=>True) a0)/\0<=a1/\a1<=1048576
def R:=RR (p2 gd) (u2 md)
def aj {a0 a1}(h:gd a0 a1):R ((a0.map bh),a1)=some (md a0 a1):=aN (a:=(a0,a1)) h
def aT:=CN [pL 3,pI] oI RT.dec R
def bt (a0)(a1)(hg:gd a0 a1):F (a0.map bh) a1=ret (md a0 a1):=by
 obtain ⟨hs,g0,g1⟩:=hg
 unfold F md
 rw [List.length_map,lP g0 g1 hs.1]
 have e:dO (fun y:Int=>0) a0=a0.length:=by
  unfold dO
  have :(a0.map (fun y:Int=>0)).sum=0:=qy (fun _=>rfl) a0
  omega
 rw [e]
 by_cases hc:a1<((a0.length:Nat):Int)
 ·rw [cK hc,decide_eq_true (by omega)];rfl
 ·rw [dn hc,decide_eq_false (by omega)];rfl
def af:cw 223 aT:=W2 12 F mix aE bt .nil Tryz.func223
end Z0
namespace Z1
def F (x0:bD)(x1:Int):aH:=(call (Z0.R (x0.aX,x1)) fun v1=>(cond (decide (v1<0)) (ret ((-1):Int)) (ret (v1:Int))))
def md (a0:aO)(a1:Int):Int:=iC (aO.size a0) a1
def gd (a0:aO)(a1:Int):Prop:=(aO.Sm maxLen a0)/\0<=a1/\a1<=1048576
def R:=RR (p2 gd) (u2 md)
def aj {a0 a1}(h:gd a0 a1):R ((aO.r a0),a1)=some (md a0 a1):=aN (a:=(a0,a1)) h
def aT:=CN [.agg Ae,pI] oI RT.dec R
def bt (a0)(a1)(hg:gd a0 a1):F (aO.r a0) a1=ret (md a0 a1):=by
 obtain ⟨hs,g0,g1⟩:=hg
 unfold md
 show (call (Z0.R ((a0.aX.map bh),a1)) fun v1=>(cond (decide (v1<0)) (ret ((-1):Int)) (ret (v1:Int))))=_
 rw [call_eq (Z0.aj (a1:=a1) ⟨hs,by omega,by omega⟩)]
 unfold Z0.md
 by_cases c0:a1<((dO (fun y:Int=>0) a0.aX:Nat):Int)
 ·rw [cK c0];rw [show iC (aO.size a0) a1=-1 from cK (by unfold aO.size;omega)];try rfl
 rw [dn c0,dm (by omega),bq]
 rw [show iC (aO.size a0) a1=a1 - ((dO (fun y:Int=>0) a0.aX:Nat):Int) from by rw [dn (by unfold aO.size;omega)];unfold aO.size;omega]
def af:cw 179 aT:=W2 12 F mix aE bt (.cons Z0.af .nil) Tryz.func179
end Z1
namespace Z2
def F (x0:bY)(x1:Int):aH:=(call (Z1.R (x0.bQ,x1)) fun v1=>(cond (decide (v1<0)) (ret ((-1):Int)) (call (Z1.R (x0.bB,v1)) fun v2=>(cond (decide (v2<0)) (ret ((-1):Int)) (call (Z1.R (x0.bw,v2)) fun v3=>(cond (decide (v3<0)) (ret ((-1):Int)) (ret (v3:Int))))))))
def md (a0:aF)(a1:Int):Int:=iC (aF.size a0) a1
def gd (a0:aF)(a1:Int):Prop:=(aF.Sm maxLen a0)/\0<=a1/\a1<=1048576
def R:=RR (p2 gd) (u2 md)
def aj {a0 a1}(h:gd a0 a1):R ((aF.r a0),a1)=some (md a0 a1):=aN (a:=(a0,a1)) h
def aT:=CN [.agg Ao,pI] oI RT.dec R
def bt (a0)(a1)(hg:gd a0 a1):F (aF.r a0) a1=ret (md a0 a1):=by
 obtain ⟨hs,g0,g1⟩:=hg
 unfold md
 show (call (Z1.R ((aO.r a0.bQ),a1)) fun v1=>(bif (decide (v1<0)) then ret ((-1):Int) else (call (Z1.R ((aO.r a0.bB),v1)) fun v2=>(bif (decide (v2<0)) then ret ((-1):Int) else (call (Z1.R ((aO.r a0.bw),v2)) fun v3=>(cond (decide (v3<0)) (ret ((-1):Int)) (ret (v3:Int))))))))=_
 rw [call_eq (Z1.aj (a1:=a1) ⟨hs.1,by omega,by omega⟩)]
 unfold Z1.md
 by_cases c0:a1<((aO.size a0.bQ:Nat):Int)
 ·rw [cK c0];rw [show iC (aF.size a0) a1=-1 from cK (by unfold aF.size;omega)];try rfl
 rw [dn c0,dm (by omega),bq]
 rw [call_eq (Z1.aj (a1:=(a1 - ((aO.size a0.bQ:Nat):Int))) ⟨hs.2.1,by omega,by omega⟩)]
 unfold Z1.md
 by_cases c1:(a1 - ((aO.size a0.bQ:Nat):Int))<((aO.size a0.bB:Nat):Int)
 ·rw [cK c1];rw [show iC (aF.size a0) a1=-1 from cK (by unfold aF.size;omega)];try rfl
 rw [dn c1,dm (by omega),bq]
 rw [call_eq (Z1.aj (a1:=(a1 - ((aO.size a0.bQ:Nat):Int) - ((aO.size a0.bB:Nat):Int))) ⟨hs.2.2,by omega,by omega⟩)]
 unfold Z1.md
 by_cases c2:(a1 - ((aO.size a0.bQ:Nat):Int) - ((aO.size a0.bB:Nat):Int))<((aO.size a0.bw:Nat):Int)
 ·rw [cK c2];rw [show iC (aF.size a0) a1=-1 from cK (by unfold aF.size;omega)];try rfl
 rw [dn c2,dm (by omega),bq]
 rw [show iC (aF.size a0) a1=a1 - ((aO.size a0.bQ:Nat):Int) - ((aO.size a0.bB:Nat):Int) - ((aO.size a0.bw:Nat):Int) from by rw [dn (by unfold aF.size;omega)];unfold aF.size;omega]
def af:cw 142 aT:=W2 24 F mix aE bt (.cons Z1.af .nil) Tryz.func142
end Z2
namespace Z3
def F (x0:aC)(x1:Int):aH:=(cond (decide ((i64.wrap (x1 - (x0.length:Int)))<0)) (ret ((-1):Int)) (ret ((i64.wrap (x1 - (x0.length:Int))):Int)))
def md (a0:List bn)(a1:Int):Int:=iC (dO (fun y:bn=>bn.size y) a0) a1
def gd (a0:List bn)(a1:Int):Prop:=(bL maxLen (fun y:bn=>bn.Sm maxLen y) a0)/\0<=a1/\a1<=1048576
def R:=RR (p2 gd) (u2 md)
def aj {a0 a1}(h:gd a0 a1):R ((a0.map bn.row),a1)=some (md a0 a1):=aN (a:=(a0,a1)) h
def aT:=CN [pL 238,pI] oI RT.dec R
def bt (a0)(a1)(hg:gd a0 a1):F (a0.map bn.row) a1=ret (md a0 a1):=by
 obtain ⟨hs,g0,g1⟩:=hg
 unfold F md
 rw [List.length_map,lP g0 g1 hs.1]
 have e:dO (fun y:bn=>bn.size y) a0=a0.length:=by
  unfold dO
  have :(a0.map (fun y:bn=>bn.size y)).sum=0:=qy (fun _=>rfl) a0
  omega
 rw [e]
 by_cases hc:a1<((a0.length:Nat):Int)
 ·rw [cK hc,decide_eq_true (by omega)];rfl
 ·rw [dn hc,decide_eq_false (by omega)];rfl
def af:cw 143 aT:=W2 12 F mix aE bt .nil Tryz.func143
end Z3
namespace Z4
def F (x0:aR)(x1:Int):aH:=(call (Z2.R (x0.an,x1)) fun v1=>(cond (decide (v1<0)) (ret ((-1):Int)) (call (Z3.R (x0.cm,v1)) fun v2=>(cond (decide (v2<0)) (ret ((-1):Int)) (ret (v2:Int))))))
def md (a0:aa)(a1:Int):Int:=iC (aa.size a0) a1
def gd (a0:aa)(a1:Int):Prop:=(aa.Sm maxLen a0)/\0<=a1/\a1<=1048576
def R:=RR (p2 gd) (u2 md)
def aj {a0 a1}(h:gd a0 a1):R ((aa.r a0),a1)=some (md a0 a1):=aN (a:=(a0,a1)) h
def aT:=CN [.agg Ah,pI] oI RT.dec R
def bt (a0)(a1)(hg:gd a0 a1):F (aa.r a0) a1=ret (md a0 a1):=by
 obtain ⟨hs,g0,g1⟩:=hg
 unfold md
 show (call (Z2.R ((aF.r a0.an),a1)) fun v1=>(bif (decide (v1<0)) then ret ((-1):Int) else (call (Z3.R ((a0.cm.map bn.row),v1)) fun v2=>(cond (decide (v2<0)) (ret ((-1):Int)) (ret (v2:Int))))))=_
 rw [call_eq (Z2.aj (a1:=a1) ⟨hs.1,by omega,by omega⟩)]
 unfold Z2.md
 by_cases c0:a1<((aF.size a0.an:Nat):Int)
 ·rw [cK c0];rw [show iC (aa.size a0) a1=-1 from cK (by unfold aa.size;omega)];try rfl
 rw [dn c0,dm (by omega),bq]
 rw [call_eq (Z3.aj (a1:=(a1 - ((aF.size a0.an:Nat):Int))) ⟨hs.2,by omega,by omega⟩)]
 unfold Z3.md
 by_cases c1:(a1 - ((aF.size a0.an:Nat):Int))<((dO (fun y:bn=>bn.size y) a0.cm:Nat):Int)
 ·rw [cK c1];rw [show iC (aa.size a0) a1=-1 from cK (by unfold aa.size;omega)];try rfl
 rw [dn c1,dm (by omega),bq]
 rw [show iC (aa.size a0) a1=a1 - ((aF.size a0.an:Nat):Int) - ((dO (fun y:bn=>bn.size y) a0.cm:Nat):Int) from by rw [dn (by unfold aa.size;omega)];unfold aa.size;omega]
def af:cw 113 aT:=W2 18 F mix aE bt (.cons Z2.af (.cons Z3.af .nil)) Tryz.func113
end Z4
namespace Z5
inductive Pt where
 | p0 (a:aC) (b c:Int)
def pid:Pt->Nat
 | .p0 ..=>5
def cg:Pt->List V
 | .p0 a b c=>[.sl none 130 a,.int .i64 b,.int .i64 c]
def bZ:Pt->List aW
 | .p0 a b c=>[]
def step (J:Pt->aH):Pt->aH
 | .p0 a b c=>(cond (decide (c<(a.length:Int))) (m2 c (a.length:Int) (call (Z4.R ((aR.at a (toNat c)),b)) fun v1=>(cond (decide (v1<0)) (ret ((-1):Int)) (J (.p0 a v1 (i64.wrap (c+1))))))) (ret (b:Int)))
def start (J:Pt->aH)(x0:aC)(x1:Int):aH:=(cond (decide ((i64.wrap (x1 - (x0.length:Int)))<0)) (ret ((-1):Int)) (J (.p0 x0 (i64.wrap (x1 - (x0.length:Int))) 0)))
def live:Nat->Live:=fun i=>match i with | 5=>[(0,none),(1,none),(5,none)] | _=>[]
def md (a0:List aa)(a1:Int):Int:=iC (dO (fun y:aa=>aa.size y) a0) a1
def gd (a0:List aa)(a1:Int):Prop:=(bL maxLen (fun y:aa=>aa.Sm maxLen y) a0)/\0<=a1/\a1<=1048576
def R:=RR (p2 gd) (u2 md)
def aj {a0 a1}(h:gd a0 a1):R ((a0.map aa.row),a1)=some (md a0 a1):=aN (a:=(a0,a1)) h
def aT:=CN [pL 130,pI] oI RT.dec R
def bt (a0)(a1)(hg:gd a0 a1):∃n,start (iter step n) (a0.map aa.row) a1=ret (md a0 a1):=by
 obtain ⟨hs,g0,g1⟩:=hg
 unfold start md
 simp only [List.length_map]
 refine jI (pt:=fun left i=>Pt.p0 (a0.map aa.row) left (i:Int)) (f:=fun y:aa=>aa.size y) hs.1 (fun J i h left p0 p1=>?_) (fun J left=>?_) g0 g1
 ·simp only [step,MM,List.length_map,aL h,aI,bf,cB,aa.dY h]
  rw [call_eq (Z4.aj ⟨hs.get h,p0,p1⟩),aG h hs.1]
  unfold Z4.md
  by_cases hc:left<((aa.size (a0[i]):Nat):Int)
  ·rw [cK hc,if_pos hc];rfl
  ·rw [dn hc,if_neg hc,dm (by omega)];rfl
 ·simp only [step,List.length_map,dU,bq]
def af:cw 81 aT:=L2 27 pid cg bZ live step start mix aE bt (.cons Z4.af .nil) Tryz.func81
end Z5
namespace Z6
inductive Pt where
 | p0 (a:aC) (b c:Int)
def pid:Pt->Nat
 | .p0 ..=>5
def cg:Pt->List V
 | .p0 a b c=>[.sl none 122 a,.int .i64 b,.int .i64 c]
def bZ:Pt->List aW
 | .p0 a b c=>[]
def step (J:Pt->aH):Pt->aH
 | .p0 a b c=>(cond (decide (c<(a.length:Int))) (m2 c (a.length:Int) (call (Z5.R ((og a (toNat c)),b)) fun v1=>(cond (decide (v1<0)) (ret ((-1):Int)) (J (.p0 a v1 (i64.wrap (c+1))))))) (ret (b:Int)))
def start (J:Pt->aH)(x0:aC)(x1:Int):aH:=(cond (decide ((i64.wrap (x1 - (x0.length:Int)))<0)) (ret ((-1):Int)) (J (.p0 x0 (i64.wrap (x1 - (x0.length:Int))) 0)))
def live:Nat->Live:=fun i=>match i with | 5=>[(0,none),(1,none),(5,none)] | _=>[]
def md (a0:List (List aa))(a1:Int):Int:=iC (dO (fun y:List aa=>dO (fun y:aa=>aa.size y) y) a0) a1
def gd (a0:List (List aa))(a1:Int):Prop:=(bL maxLen (fun y:List aa=>bL maxLen (fun y:aa=>aa.Sm maxLen y) y) a0)/\0<=a1/\a1<=1048576
def R:=RR (p2 gd) (u2 md)
def aj {a0 a1}(h:gd a0 a1):R ((a0.map (dG aa.row)),a1)=some (md a0 a1):=aN (a:=(a0,a1)) h
def aT:=CN [pL 122,pI] oI RT.dec R
def bt (a0)(a1)(hg:gd a0 a1):∃n,start (iter step n) (a0.map (dG aa.row)) a1=ret (md a0 a1):=by
 obtain ⟨hs,g0,g1⟩:=hg
 unfold start md
 simp only [List.length_map]
 refine jI (pt:=fun left i=>Pt.p0 (a0.map (dG aa.row)) left (i:Int)) (f:=fun y:List aa=>dO (fun y:aa=>aa.size y) y) hs.1 (fun J i h left p0 p1=>?_) (fun J left=>?_) g0 g1
 ·simp only [step,MM,List.length_map,aL h,aI,bf,cB,pR h]
  rw [call_eq (Z5.aj ⟨hs.get h,p0,p1⟩),aG h hs.1]
  unfold Z5.md
  by_cases hc:left<((dO (fun y:aa=>aa.size y) (a0[i]):Nat):Int)
  ·rw [cK hc,if_pos hc];rfl
  ·rw [dn hc,if_neg hc,dm (by omega)];rfl
 ·simp only [step,List.length_map,dU,bq]
def af:cw 39 aT:=L2 27 pid cg bZ live step start mix aE bt (.cons Z5.af .nil) Tryz.func39
end Z6
namespace Z7
def F (x0:bH)(x1:Int):aH:=(call (Z4.R (x0.aQ,x1)) fun v1=>(cond (decide (v1<0)) (ret ((-1):Int)) (call (Z4.R (x0.fA,v1)) fun v2=>(cond (decide (v2<0)) (ret ((-1):Int)) (call (Z4.R (x0.fB,v2)) fun v3=>(cond (decide (v3<0)) (ret ((-1):Int)) (ret (v3:Int))))))))
def md (a0:az)(a1:Int):Int:=iC (az.size a0) a1
def gd (a0:az)(a1:Int):Prop:=(az.Sm maxLen a0)/\0<=a1/\a1<=1048576
def R:=RR (p2 gd) (u2 md)
def aj {a0 a1}(h:gd a0 a1):R ((az.r a0),a1)=some (md a0 a1):=aN (a:=(a0,a1)) h
def aT:=CN [.agg Ar,pI] oI RT.dec R
def bt (a0)(a1)(hg:gd a0 a1):F (az.r a0) a1=ret (md a0 a1):=by
 obtain ⟨hs,g0,g1⟩:=hg
 unfold md
 show (call (Z4.R ((aa.r a0.aQ),a1)) fun v1=>(bif (decide (v1<0)) then ret ((-1):Int) else (call (Z4.R ((aa.r a0.fA),v1)) fun v2=>(bif (decide (v2<0)) then ret ((-1):Int) else (call (Z4.R ((aa.r a0.fB),v2)) fun v3=>(cond (decide (v3<0)) (ret ((-1):Int)) (ret (v3:Int))))))))=_
 rw [call_eq (Z4.aj (a1:=a1) ⟨hs.1,by omega,by omega⟩)]
 unfold Z4.md
 by_cases c0:a1<((aa.size a0.aQ:Nat):Int)
 ·rw [cK c0];rw [show iC (az.size a0) a1=-1 from cK (by unfold az.size;omega)];try rfl
 rw [dn c0,dm (by omega),bq]
 rw [call_eq (Z4.aj (a1:=(a1 - ((aa.size a0.aQ:Nat):Int))) ⟨hs.2.1,by omega,by omega⟩)]
 unfold Z4.md
 by_cases c1:(a1 - ((aa.size a0.aQ:Nat):Int))<((aa.size a0.fA:Nat):Int)
 ·rw [cK c1];rw [show iC (az.size a0) a1=-1 from cK (by unfold az.size;omega)];try rfl
 rw [dn c1,dm (by omega),bq]
 rw [call_eq (Z4.aj (a1:=(a1 - ((aa.size a0.aQ:Nat):Int) - ((aa.size a0.fA:Nat):Int))) ⟨hs.2.2,by omega,by omega⟩)]
 unfold Z4.md
 by_cases c2:(a1 - ((aa.size a0.aQ:Nat):Int) - ((aa.size a0.fA:Nat):Int))<((aa.size a0.fB:Nat):Int)
 ·rw [cK c2];rw [show iC (az.size a0) a1=-1 from cK (by unfold az.size;omega)];try rfl
 rw [dn c2,dm (by omega),bq]
 rw [show iC (az.size a0) a1=a1 - ((aa.size a0.aQ:Nat):Int) - ((aa.size a0.fA:Nat):Int) - ((aa.size a0.fB:Nat):Int) from by rw [dn (by unfold az.size;omega)];unfold az.size;omega]
def af:cw 82 aT:=W2 24 F mix aE bt (.cons Z4.af .nil) Tryz.func82
end Z7
namespace Z8
inductive Pt where
 | p0 (a:aC) (b c:Int)
def pid:Pt->Nat
 | .p0 ..=>5
def cg:Pt->List V
 | .p0 a b c=>[.sl none 132 a,.int .i64 b,.int .i64 c]
def bZ:Pt->List aW
 | .p0 a b c=>[]
def step (J:Pt->aH):Pt->aH
 | .p0 a b c=>(cond (decide (c<(a.length:Int))) (m2 c (a.length:Int) (call (Z7.R ((bH.at a (toNat c)),b)) fun v1=>(cond (decide (v1<0)) (ret ((-1):Int)) (J (.p0 a v1 (i64.wrap (c+1))))))) (ret (b:Int)))
def start (J:Pt->aH)(x0:aC)(x1:Int):aH:=(cond (decide ((i64.wrap (x1 - (x0.length:Int)))<0)) (ret ((-1):Int)) (J (.p0 x0 (i64.wrap (x1 - (x0.length:Int))) 0)))
def live:Nat->Live:=fun i=>match i with | 5=>[(0,none),(1,none),(5,none)] | _=>[]
def md (a0:List az)(a1:Int):Int:=iC (dO (fun y:az=>az.size y) a0) a1
def gd (a0:List az)(a1:Int):Prop:=(bL maxLen (fun y:az=>az.Sm maxLen y) a0)/\0<=a1/\a1<=1048576
def R:=RR (p2 gd) (u2 md)
def aj {a0 a1}(h:gd a0 a1):R ((a0.map az.row),a1)=some (md a0 a1):=aN (a:=(a0,a1)) h
def aT:=CN [pL 132,pI] oI RT.dec R
def bt (a0)(a1)(hg:gd a0 a1):∃n,start (iter step n) (a0.map az.row) a1=ret (md a0 a1):=by
 obtain ⟨hs,g0,g1⟩:=hg
 unfold start md
 simp only [List.length_map]
 refine jI (pt:=fun left i=>Pt.p0 (a0.map az.row) left (i:Int)) (f:=fun y:az=>az.size y) hs.1 (fun J i h left p0 p1=>?_) (fun J left=>?_) g0 g1
 ·simp only [step,MM,List.length_map,aL h,aI,bf,cB,az.dY h]
  rw [call_eq (Z7.aj ⟨hs.get h,p0,p1⟩),aG h hs.1]
  unfold Z7.md
  by_cases hc:left<((az.size (a0[i]):Nat):Int)
  ·rw [cK hc,if_pos hc];rfl
  ·rw [dn hc,if_neg hc,dm (by omega)];rfl
 ·simp only [step,List.length_map,dU,bq]
def af:cw 40 aT:=L2 27 pid cg bZ live step start mix aE bt (.cons Z7.af .nil) Tryz.func40
end Z8
namespace Z9
def F (x0:bu)(x1:Int):aH:=(call (Z6.R (x0.aJ,x1)) fun v1=>(cond (decide (v1<0)) (ret ((-1):Int)) (call (Z8.R (x0.bp,v1)) fun v2=>(cond (decide (v2<0)) (ret ((-1):Int)) (ret (v2:Int))))))
def md (a0:aq)(a1:Int):Int:=iC (aq.size a0) a1
def gd (a0:aq)(a1:Int):Prop:=(aq.Sm maxLen a0)/\0<=a1/\a1<=1048576
def R:=RR (p2 gd) (u2 md)
def aj {a0 a1}(h:gd a0 a1):R ((aq.r a0),a1)=some (md a0 a1):=aN (a:=(a0,a1)) h
def aT:=CN [.agg Bq,pI] oI RT.dec R
def bt (a0)(a1)(hg:gd a0 a1):F (aq.r a0) a1=ret (md a0 a1):=by
 obtain ⟨hs,g0,g1⟩:=hg
 unfold md
 show (call (Z6.R ((a0.aJ.map (dG aa.row)),a1)) fun v1=>(bif (decide (v1<0)) then ret ((-1):Int) else (call (Z8.R ((a0.bp.map az.row),v1)) fun v2=>(cond (decide (v2<0)) (ret ((-1):Int)) (ret (v2:Int))))))=_
 rw [call_eq (Z6.aj (a1:=a1) ⟨hs.1,by omega,by omega⟩)]
 unfold Z6.md
 by_cases c0:a1<((dO (fun y:List aa=>dO (fun y:aa=>aa.size y) y) a0.aJ:Nat):Int)
 ·rw [cK c0];rw [show iC (aq.size a0) a1=-1 from cK (by unfold aq.size;omega)];try rfl
 rw [dn c0,dm (by omega),bq]
 rw [call_eq (Z8.aj (a1:=(a1 - ((dO (fun y:List aa=>dO (fun y:aa=>aa.size y) y) a0.aJ:Nat):Int))) ⟨hs.2,by omega,by omega⟩)]
 unfold Z8.md
 by_cases c1:(a1 - ((dO (fun y:List aa=>dO (fun y:aa=>aa.size y) y) a0.aJ:Nat):Int))<((dO (fun y:az=>az.size y) a0.bp:Nat):Int)
 ·rw [cK c1];rw [show iC (aq.size a0) a1=-1 from cK (by unfold aq.size;omega)];try rfl
 rw [dn c1,dm (by omega),bq]
 rw [show iC (aq.size a0) a1=a1 - ((dO (fun y:List aa=>dO (fun y:aa=>aa.size y) y) a0.aJ:Nat):Int) - ((dO (fun y:az=>az.size y) a0.bp:Nat):Int) from by rw [dn (by unfold aq.size;omega)];unfold aq.size;omega]
def af:cw 6 aT:=W2 18 F mix aE bt (.cons Z6.af (.cons Z8.af .nil)) Tryz.func6
end Z9
namespace Z10
inductive Pt where
 | p0 (a:aC) (b c:Int)
def pid:Pt->Nat
 | .p0 ..=>5
def cg:Pt->List V
 | .p0 a b c=>[.sl none 9 a,.int .i64 b,.int .i64 c]
def bZ:Pt->List aW
 | .p0 a b c=>[]
def step (J:Pt->aH):Pt->aH
 | .p0 a b c=>(cond (decide (c<(a.length:Int))) (m2 c (a.length:Int) (cond (decide ((i64.wrap (b - ((pV a (toNat c)).size:Int)))<0)) (ret ((-1):Int)) (J (.p0 a (i64.wrap (b - ((pV a (toNat c)).size:Int))) (i64.wrap (c+1)))))) (ret (b:Int)))
def start (J:Pt->aH)(x0:aC)(x1:Int):aH:=(cond (decide ((i64.wrap (x1 - (x0.length:Int)))<0)) (ret ((-1):Int)) (J (.p0 x0 (i64.wrap (x1 - (x0.length:Int))) 0)))
def live:Nat->Live:=fun i=>match i with | 5=>[(0,none),(1,none),(5,none)] | _=>[]
def md (a0:List aB)(a1:Int):Int:=iC (dO (fun y:aB=>y.size) a0) a1
def gd (a0:List aB)(a1:Int):Prop:=(bL maxLen (fun y:aB=>y.size<=maxLen) a0)/\0<=a1/\a1<=1048576
def R:=RR (p2 gd) (u2 md)
def aj {a0 a1}(h:gd a0 a1):R ((a0.map cF),a1)=some (md a0 a1):=aN (a:=(a0,a1)) h
def aT:=CN [pL 9,pI] oI RT.dec R
def bt (a0)(a1)(hg:gd a0 a1):∃n,start (iter step n) (a0.map cF) a1=ret (md a0 a1):=by
 obtain ⟨hs,g0,g1⟩:=hg
 unfold start md
 simp only [List.length_map]
 refine jI (pt:=fun left i=>Pt.p0 (a0.map cF) left (i:Int)) (f:=fun y:aB=>y.size) hs.1 (fun J i h left p0 p1=>?_) (fun J left=>?_) g0 g1
 ·simp only [step,MM,List.length_map,aL h,aI,bf,cB,pP h]
  rw [lP p0 p1 (hs.get h),aG h hs.1]
  by_cases hc:left - ((a0[i].size:Nat):Int)<0
  ·rw [decide_eq_true hc,if_pos (by omega)];rfl
  ·rw [decide_eq_false hc,if_neg (by omega)];rfl
 ·simp only [step,List.length_map,dU,bq]
def af:cw 9 aT:=L2 28 pid cg bZ live step start mix aE bt .nil Tryz.func9
end Z10
namespace Z11
def F (x0:aU)(x1:Int):aH:=(cond (decide ((i64.wrap (x1 - (x0.bk.size:Int)))<0)) (ret ((-1):Int)) (call (Z10.R (x0.bI,(i64.wrap (x1 - (x0.bk.size:Int))))) fun v1=>(cond (decide (v1<0)) (ret ((-1):Int)) (ret (v1:Int)))))
def md (a0:ah)(a1:Int):Int:=iC (ah.size a0) a1
def gd (a0:ah)(a1:Int):Prop:=(ah.Sm maxLen a0)/\0<=a1/\a1<=1048576
def R:=RR (p2 gd) (u2 md)
def aj {a0 a1}(h:gd a0 a1):R ((ah.r a0),a1)=some (md a0 a1):=aN (a:=(a0,a1)) h
def aT:=CN [.agg AO,pI] oI RT.dec R
def bt (a0)(a1)(hg:gd a0 a1):F (ah.r a0) a1=ret (md a0 a1):=by
 obtain ⟨hs,g0,g1⟩:=hg
 unfold md
 show (bif (decide ((i64.wrap (a1 - (a0.bk.size:Int)))<0)) then ret ((-1):Int) else (call (Z10.R ((a0.bI.map cF),(i64.wrap (a1 - (a0.bk.size:Int))))) fun v1=>(cond (decide (v1<0)) (ret ((-1):Int)) (ret (v1:Int)))))=_
 rw [lP (left:=a1) (s:=a0.bk.size) (by omega) (by omega) hs.1]
 by_cases c0:a1 - ((a0.bk.size:Nat):Int)<0
 ·rw [decide_eq_true c0,bf];rw [show iC (ah.size a0) a1=-1 from cK (by unfold ah.size;omega)];try rfl
 rw [decide_eq_false c0,bq]
 rw [call_eq (Z10.aj (a1:=(a1 - ((a0.bk.size:Nat):Int))) ⟨hs.2,by omega,by omega⟩)]
 unfold Z10.md
 by_cases c1:(a1 - ((a0.bk.size:Nat):Int))<((dO (fun y:aB=>y.size) a0.bI:Nat):Int)
 ·rw [cK c1];rw [show iC (ah.size a0) a1=-1 from cK (by unfold ah.size;omega)];try rfl
 rw [dn c1,dm (by omega),bq]
 rw [show iC (ah.size a0) a1=a1 - ((a0.bk.size:Nat):Int) - ((dO (fun y:aB=>y.size) a0.bI:Nat):Int) from by rw [dn (by unfold ah.size;omega)];unfold ah.size;omega]
def af:cw 180 aT:=W2 19 F mix aE bt (.cons Z10.af .nil) Tryz.func180
end Z11
namespace Z12
inductive Pt where
 | p0 (a:aC) (b c:Int)
def pid:Pt->Nat
 | .p0 ..=>5
def cg:Pt->List V
 | .p0 a b c=>[.sl none 235 a,.int .i64 b,.int .i64 c]
def bZ:Pt->List aW
 | .p0 a b c=>[]
def step (J:Pt->aH):Pt->aH
 | .p0 a b c=>(cond (decide (c<(a.length:Int))) (m2 c (a.length:Int) (call (Z11.R ((aU.at a (toNat c)),b)) fun v1=>(cond (decide (v1<0)) (ret ((-1):Int)) (J (.p0 a v1 (i64.wrap (c+1))))))) (ret (b:Int)))
def start (J:Pt->aH)(x0:aC)(x1:Int):aH:=(cond (decide ((i64.wrap (x1 - (x0.length:Int)))<0)) (ret ((-1):Int)) (J (.p0 x0 (i64.wrap (x1 - (x0.length:Int))) 0)))
def live:Nat->Live:=fun i=>match i with | 5=>[(0,none),(1,none),(5,none)] | _=>[]
def md (a0:List ah)(a1:Int):Int:=iC (dO (fun y:ah=>ah.size y) a0) a1
def gd (a0:List ah)(a1:Int):Prop:=(bL maxLen (fun y:ah=>ah.Sm maxLen y) a0)/\0<=a1/\a1<=1048576
def R:=RR (p2 gd) (u2 md)
def aj {a0 a1}(h:gd a0 a1):R ((a0.map ah.row),a1)=some (md a0 a1):=aN (a:=(a0,a1)) h
def aT:=CN [pL 235,pI] oI RT.dec R
def bt (a0)(a1)(hg:gd a0 a1):∃n,start (iter step n) (a0.map ah.row) a1=ret (md a0 a1):=by
 obtain ⟨hs,g0,g1⟩:=hg
 unfold start md
 simp only [List.length_map]
 refine jI (pt:=fun left i=>Pt.p0 (a0.map ah.row) left (i:Int)) (f:=fun y:ah=>ah.size y) hs.1 (fun J i h left p0 p1=>?_) (fun J left=>?_) g0 g1
 ·simp only [step,MM,List.length_map,aL h,aI,bf,cB,ah.dY h]
  rw [call_eq (Z11.aj ⟨hs.get h,p0,p1⟩),aG h hs.1]
  unfold Z11.md
  by_cases hc:left<((ah.size (a0[i]):Nat):Int)
  ·rw [cK hc,if_pos hc];rfl
  ·rw [dn hc,if_neg hc,dm (by omega)];rfl
 ·simp only [step,List.length_map,dU,bq]
def af:cw 144 aT:=L2 27 pid cg bZ live step start mix aE bt (.cons Z11.af .nil) Tryz.func144
end Z12
namespace Z13
def F (x0:dL)(x1:Int):aH:=(call (Z5.R (x0.aS,x1)) fun v1=>(cond (decide (v1<0)) (ret ((-1):Int)) (call (Z12.R (x0.bM,v1)) fun v2=>(cond (decide (v2<0)) (ret ((-1):Int)) (ret (v2:Int))))))
def md (a0:aK)(a1:Int):Int:=iC (aK.size a0) a1
def gd (a0:aK)(a1:Int):Prop:=(aK.Sm maxLen a0)/\0<=a1/\a1<=1048576
def R:=RR (p2 gd) (u2 md)
def aj {a0 a1}(h:gd a0 a1):R ((aK.r a0),a1)=some (md a0 a1):=aN (a:=(a0,a1)) h
def aT:=CN [.agg Az,pI] oI RT.dec R
def bt (a0)(a1)(hg:gd a0 a1):F (aK.r a0) a1=ret (md a0 a1):=by
 obtain ⟨hs,g0,g1⟩:=hg
 unfold md
 show (call (Z5.R ((a0.aS.map aa.row),a1)) fun v1=>(bif (decide (v1<0)) then ret ((-1):Int) else (call (Z12.R ((a0.bM.map ah.row),v1)) fun v2=>(cond (decide (v2<0)) (ret ((-1):Int)) (ret (v2:Int))))))=_
 rw [call_eq (Z5.aj (a1:=a1) ⟨hs.1,by omega,by omega⟩)]
 unfold Z5.md
 by_cases c0:a1<((dO (fun y:aa=>aa.size y) a0.aS:Nat):Int)
 ·rw [cK c0];rw [show iC (aK.size a0) a1=-1 from cK (by unfold aK.size;omega)];try rfl
 rw [dn c0,dm (by omega),bq]
 rw [call_eq (Z12.aj (a1:=(a1 - ((dO (fun y:aa=>aa.size y) a0.aS:Nat):Int))) ⟨hs.2,by omega,by omega⟩)]
 unfold Z12.md
 by_cases c1:(a1 - ((dO (fun y:aa=>aa.size y) a0.aS:Nat):Int))<((dO (fun y:ah=>ah.size y) a0.bM:Nat):Int)
 ·rw [cK c1];rw [show iC (aK.size a0) a1=-1 from cK (by unfold aK.size;omega)];try rfl
 rw [dn c1,dm (by omega),bq]
 rw [show iC (aK.size a0) a1=a1 - ((dO (fun y:aa=>aa.size y) a0.aS:Nat):Int) - ((dO (fun y:ah=>ah.size y) a0.bM:Nat):Int) from by rw [dn (by unfold aK.size;omega)];unfold aK.size;omega]
def af:cw 114 aT:=W2 18 F mix aE bt (.cons Z5.af (.cons Z12.af .nil)) Tryz.func114
end Z13
namespace Z14
inductive Pt where
 | p0 (a:aC) (b c:Int)
def pid:Pt->Nat
 | .p0 ..=>5
def cg:Pt->List V
 | .p0 a b c=>[.sl none 183 a,.int .i64 b,.int .i64 c]
def bZ:Pt->List aW
 | .p0 a b c=>[]
def step (J:Pt->aH):Pt->aH
 | .p0 a b c=>(cond (decide (c<(a.length:Int))) (m2 c (a.length:Int) (call (Z13.R ((dL.at a (toNat c)),b)) fun v1=>(cond (decide (v1<0)) (ret ((-1):Int)) (J (.p0 a v1 (i64.wrap (c+1))))))) (ret (b:Int)))
def start (J:Pt->aH)(x0:aC)(x1:Int):aH:=(cond (decide ((i64.wrap (x1 - (x0.length:Int)))<0)) (ret ((-1):Int)) (J (.p0 x0 (i64.wrap (x1 - (x0.length:Int))) 0)))
def live:Nat->Live:=fun i=>match i with | 5=>[(0,none),(1,none),(5,none)] | _=>[]
def md (a0:List aK)(a1:Int):Int:=iC (dO (fun y:aK=>aK.size y) a0) a1
def gd (a0:List aK)(a1:Int):Prop:=(bL maxLen (fun y:aK=>aK.Sm maxLen y) a0)/\0<=a1/\a1<=1048576
def R:=RR (p2 gd) (u2 md)
def aj {a0 a1}(h:gd a0 a1):R ((a0.map aK.row),a1)=some (md a0 a1):=aN (a:=(a0,a1)) h
def aT:=CN [pL 183,pI] oI RT.dec R
def bt (a0)(a1)(hg:gd a0 a1):∃n,start (iter step n) (a0.map aK.row) a1=ret (md a0 a1):=by
 obtain ⟨hs,g0,g1⟩:=hg
 unfold start md
 simp only [List.length_map]
 refine jI (pt:=fun left i=>Pt.p0 (a0.map aK.row) left (i:Int)) (f:=fun y:aK=>aK.size y) hs.1 (fun J i h left p0 p1=>?_) (fun J left=>?_) g0 g1
 ·simp only [step,MM,List.length_map,aL h,aI,bf,cB,aK.dY h]
  rw [call_eq (Z13.aj ⟨hs.get h,p0,p1⟩),aG h hs.1]
  unfold Z13.md
  by_cases hc:left<((aK.size (a0[i]):Nat):Int)
  ·rw [cK hc,if_pos hc];rfl
  ·rw [dn hc,if_neg hc,dm (by omega)];rfl
 ·simp only [step,List.length_map,dU,bq]
def af:cw 83 aT:=L2 27 pid cg bZ live step start mix aE bt (.cons Z13.af .nil) Tryz.func83
end Z14
namespace Z15
def F (x0:cL)(x1:Int):aH:=(call (Z14.R (x0.bG,x1)) fun v1=>(cond (decide (v1<0)) (ret ((-1):Int)) (ret (v1:Int))))
def md (a0:av)(a1:Int):Int:=iC (av.size a0) a1
def gd (a0:av)(a1:Int):Prop:=(av.Sm maxLen a0)/\0<=a1/\a1<=1048576
def R:=RR (p2 gd) (u2 md)
def aj {a0 a1}(h:gd a0 a1):R ((av.r a0),a1)=some (md a0 a1):=aN (a:=(a0,a1)) h
def aT:=CN [.agg Bs,pI] oI RT.dec R
def bt (a0)(a1)(hg:gd a0 a1):F (av.r a0) a1=ret (md a0 a1):=by
 obtain ⟨hs,g0,g1⟩:=hg
 unfold md
 show (call (Z14.R ((a0.bG.map aK.row),a1)) fun v1=>(cond (decide (v1<0)) (ret ((-1):Int)) (ret (v1:Int))))=_
 rw [call_eq (Z14.aj (a1:=a1) ⟨hs,by omega,by omega⟩)]
 unfold Z14.md
 by_cases c0:a1<((dO (fun y:aK=>aK.size y) a0.bG:Nat):Int)
 ·rw [cK c0];rw [show iC (av.size a0) a1=-1 from cK (by unfold av.size;omega)];try rfl
 rw [dn c0,dm (by omega),bq]
 rw [show iC (av.size a0) a1=a1 - ((dO (fun y:aK=>aK.size y) a0.bG:Nat):Int) from by rw [dn (by unfold av.size;omega)];unfold av.size;omega]
def af:cw 41 aT:=W2 12 F mix aE bt (.cons Z14.af .nil) Tryz.func41
end Z15
namespace Z16
inductive Pt where
 | p0 (a:aC) (b c:Int)
def pid:Pt->Nat
 | .p0 ..=>5
def cg:Pt->List V
 | .p0 a b c=>[.sl none 78 a,.int .i64 b,.int .i64 c]
def bZ:Pt->List aW
 | .p0 a b c=>[]
def step (J:Pt->aH):Pt->aH
 | .p0 a b c=>(cond (decide (c<(a.length:Int))) (m2 c (a.length:Int) (call (Z15.R ((cL.at a (toNat c)),b)) fun v1=>(cond (decide (v1<0)) (ret ((-1):Int)) (J (.p0 a v1 (i64.wrap (c+1))))))) (ret (b:Int)))
def start (J:Pt->aH)(x0:aC)(x1:Int):aH:=(cond (decide ((i64.wrap (x1 - (x0.length:Int)))<0)) (ret ((-1):Int)) (J (.p0 x0 (i64.wrap (x1 - (x0.length:Int))) 0)))
def live:Nat->Live:=fun i=>match i with | 5=>[(0,none),(1,none),(5,none)] | _=>[]
def md (a0:List av)(a1:Int):Int:=iC (dO (fun y:av=>av.size y) a0) a1
def gd (a0:List av)(a1:Int):Prop:=(bL maxLen (fun y:av=>av.Sm maxLen y) a0)/\0<=a1/\a1<=1048576
def R:=RR (p2 gd) (u2 md)
def aj {a0 a1}(h:gd a0 a1):R ((a0.map av.row),a1)=some (md a0 a1):=aN (a:=(a0,a1)) h
def aT:=CN [pL 78,pI] oI RT.dec R
def bt (a0)(a1)(hg:gd a0 a1):∃n,start (iter step n) (a0.map av.row) a1=ret (md a0 a1):=by
 obtain ⟨hs,g0,g1⟩:=hg
 unfold start md
 simp only [List.length_map]
 refine jI (pt:=fun left i=>Pt.p0 (a0.map av.row) left (i:Int)) (f:=fun y:av=>av.size y) hs.1 (fun J i h left p0 p1=>?_) (fun J left=>?_) g0 g1
 ·simp only [step,MM,List.length_map,aL h,aI,bf,cB,av.dY h]
  rw [call_eq (Z15.aj ⟨hs.get h,p0,p1⟩),aG h hs.1]
  unfold Z15.md
  by_cases hc:left<((av.size (a0[i]):Nat):Int)
  ·rw [cK hc,if_pos hc];rfl
  ·rw [dn hc,if_neg hc,dm (by omega)];rfl
 ·simp only [step,List.length_map,dU,bq]
def af:cw 7 aT:=L2 27 pid cg bZ live step start mix aE bt (.cons Z15.af .nil) Tryz.func7
end Z16
namespace Z17
def F (x0:bF)(x1:Int):aH:=(cond (decide ((i64.wrap (x1 - (x0.fName.size:Int)))<0)) (ret ((-1):Int)) (ret ((i64.wrap (x1 - (x0.fName.size:Int))):Int)))
def md (a0:bF)(a1:Int):Int:=iC (bF.size a0) a1
def gd (a0:bF)(a1:Int):Prop:=(bF.Sm maxLen a0)/\0<=a1/\a1<=1048576
def R:=RR (p2 gd) (u2 md)
def aj {a0 a1}(h:gd a0 a1):R (a0,a1)=some (md a0 a1):=aN (a:=(a0,a1)) h
def aT:=CN [.agg AK,pI] oI RT.dec R
def bt (a0)(a1)(hg:gd a0 a1):F a0 a1=ret (md a0 a1):=by
 obtain ⟨hs,g0,g1⟩:=hg
 unfold md
 show (cond (decide ((i64.wrap (a1 - (a0.fName.size:Int)))<0)) (ret ((-1):Int)) (ret ((i64.wrap (a1 - (a0.fName.size:Int))):Int)))=_
 rw [lP (left:=a1) (s:=a0.fName.size) (by omega) (by omega) hs]
 by_cases c0:a1 - ((a0.fName.size:Nat):Int)<0
 ·rw [decide_eq_true c0,bf];rw [show iC (bF.size a0) a1=-1 from cK (by unfold bF.size;omega)];try rfl
 rw [decide_eq_false c0,bq]
 rw [show iC (bF.size a0) a1=a1 - ((a0.fName.size:Nat):Int) from by rw [dn (by unfold bF.size;omega)];unfold bF.size;omega]
def af:cw 76 aT:=W2 13 F mix aE bt .nil Tryz.func76
end Z17
namespace Z18
inductive Pt where
 | p0 (a:aC) (b c:Int)
def pid:Pt->Nat
 | .p0 ..=>5
def cg:Pt->List V
 | .p0 a b c=>[.sl none 115 a,.int .i64 b,.int .i64 c]
def bZ:Pt->List aW
 | .p0 a b c=>[]
def step (J:Pt->aH):Pt->aH
 | .p0 a b c=>(cond (decide (c<(a.length:Int))) (m2 c (a.length:Int) (call (Z17.R ((bF.at a (toNat c)),b)) fun v1=>(cond (decide (v1<0)) (ret ((-1):Int)) (J (.p0 a v1 (i64.wrap (c+1))))))) (ret (b:Int)))
def start (J:Pt->aH)(x0:aC)(x1:Int):aH:=(cond (decide ((i64.wrap (x1 - (x0.length:Int)))<0)) (ret ((-1):Int)) (J (.p0 x0 (i64.wrap (x1 - (x0.length:Int))) 0)))
def live:Nat->Live:=fun i=>match i with | 5=>[(0,none),(1,none),(5,none)] | _=>[]
def md (a0:List bF)(a1:Int):Int:=iC (dO (fun y:bF=>bF.size y) a0) a1
def gd (a0:List bF)(a1:Int):Prop:=(bL maxLen (fun y:bF=>bF.Sm maxLen y) a0)/\0<=a1/\a1<=1048576
def R:=RR (p2 gd) (u2 md)
def aj {a0 a1}(h:gd a0 a1):R ((a0.map bF.row),a1)=some (md a0 a1):=aN (a:=(a0,a1)) h
def aT:=CN [pL 115,pI] oI RT.dec R
def bt (a0)(a1)(hg:gd a0 a1):∃n,start (iter step n) (a0.map bF.row) a1=ret (md a0 a1):=by
 obtain ⟨hs,g0,g1⟩:=hg
 unfold start md
 simp only [List.length_map]
 refine jI (pt:=fun left i=>Pt.p0 (a0.map bF.row) left (i:Int)) (f:=fun y:bF=>bF.size y) hs.1 (fun J i h left p0 p1=>?_) (fun J left=>?_) g0 g1
 ·simp only [step,MM,List.length_map,aL h,aI,bf,cB,bF.dY h]
  rw [call_eq (Z17.aj ⟨hs.get h,p0,p1⟩),aG h hs.1]
  unfold Z17.md
  by_cases hc:left<((bF.size (a0[i]):Nat):Int)
  ·rw [cK hc,if_pos hc];rfl
  ·rw [dn hc,if_neg hc,dm (by omega)];rfl
 ·simp only [step,List.length_map,dU,bq]
def af:cw 33 aT:=L2 27 pid cg bZ live step start mix aE bt (.cons Z17.af .nil) Tryz.func33
end Z18
namespace Z19
inductive Pt where
 | p0 (a:aC) (b:Int) (c:aC)
def pid:Pt->Nat
 | .p0 ..=>3
def cg:Pt->List V
 | .p0 a b c=>[.sl none 3 a,.own 0,.int .i64 b]
def bZ:Pt->List aW
 | .p0 a b c=>[.row 3 c]
def step (J:Pt->aH):Pt->aH
 | .p0 a b c=>(cond (decide (b<(a.length:Int))) (m2 b (a.length:Int) (m2 b (c.length:Int) (J (.p0 a (i64.wrap (b+1)) (List.set c (toNat b) [L.int (je a (toNat b))]))))) (ret (c:aC)))
def start (J:Pt->aH)(x0:aC):aH:=(ck (decide ((0:Int)<=(x0.length:Int))) (ck (decide ((x0.length:Int)<=(x0.length:Int))) (ck (decide ((x0.length:Int)*8<=140737488355328)) (J (.p0 x0 0 (List.replicate (toNat (x0.length:Int)) [L.int 0]))))))
def live:Nat->Live:=fun i=>match i with | 3=>[(0,none),(3,none),(4,none)] | _=>[]
def md (a0:List Int):List Int:=a0
def gd (a0:List Int):Prop:=bL (2^36) (fun y:Int=>True) a0
def R:=RR gd md
def aj {a0}(h:gd a0):R (a0.map bh)=some (a0.map bh):=aN (a:=a0) h
def aT:=CN [pL 3] (oL 3) RT.dec R
def bt (a0)(hg:gd a0):∃n,start (iter step n) (a0.map bh)=ret ((md a0).map bh):=by
 unfold start md
 simp only [List.length_map]
 refine iw (b:=8) (pt:=fun i c=>Pt.p0 (a0.map bh) (i:Int) c) (by have:=hg.1;simp at this;omega) (fun J i h c hc=>?_) (fun J c=>?_)
 ·simp only [step,MM,List.length_map,aL h,aI,bf,cB,sF h,hc]
  rw [aG (n:=a0.length) h (by have:=hg.1;simp only [maxLen];simp at this;omega)]
  rfl
 ·simp only [step,List.length_map,dU,bq]
def af:cw 224 aT:=L1 22 pid cg bZ live step start mix aE bt .nil Tryz.func224
end Z19
namespace Z20
def F (x0:bD):aH:=(call (Z19.R x0.aX) fun v1=>ret ((⟨v1,x0.cC⟩:bD):bD))
def md (a0:aO):aO:=a0
def gd (a0:aO):Prop:=aO.Sm (2^36) a0
def R:=RR gd md
def aj {a0}(h:gd a0):R (aO.r a0)=some (aO.r a0):=aN (a:=a0) h
def aT:=CN [.agg Ae] (.agg f136) RT.dec R
def bt (a0)(hg:gd a0):F (aO.r a0)=ret (aO.r (md a0)):=by
 unfold md
 show (call (Z19.R (a0.aX.map bh)) fun v1=>ret ((⟨v1,a0.cC⟩:bD):bD))=_
 rw [call_eq (Z19.aj hg)]
 rfl
def af:cw 181 aT:=W1 12 F mix aE bt (.cons Z19.af .nil) Tryz.func181
end Z20
namespace Z21
def F (x0:bY):aH:=(call (Z20.R x0.bQ) fun v1=>(call (Z20.R x0.bB) fun v2=>(call (Z20.R x0.bw) fun v3=>ret ((⟨x0.bC,x0.cI,x0.bK,x0.cG,x0.cz,x0.cq,x0.cW,x0.dy,v1,v2,x0.cY,v3,x0.bE⟩:bY):bY))))
def md (a0:aF):aF:=a0
def gd (a0:aF):Prop:=aF.Sm (2^36) a0
def R:=RR gd md
def aj {a0}(h:gd a0):R (aF.r a0)=some (aF.r a0):=aN (a:=a0) h
def aT:=CN [.agg Ao] (.agg f138) RT.dec R
def bt (a0)(hg:gd a0):F (aF.r a0)=ret (aF.r (md a0)):=by
 unfold md
 show (call (Z20.R (aO.r a0.bQ)) fun v1=>(call (Z20.R (aO.r a0.bB)) fun v2=>(call (Z20.R (aO.r a0.bw)) fun v3=>ret ((⟨a0.bC,a0.cI,a0.bK,a0.cG,a0.cz,a0.cq,a0.cW,a0.dy,v1,v2,a0.cY,v3,a0.bE⟩:bY):bY))))=_
 rw [call_eq (Z20.aj hg.1)]
 rw [call_eq (Z20.aj hg.2.1)]
 rw [call_eq (Z20.aj hg.2.2)]
 rfl
def af:cw 145 aT:=W1 47 F mix aE bt (.cons Z20.af .nil) Tryz.func145
end Z21
namespace Z22
def F (x0:bn):aH:=ret (x0:bn)
def md (a0:bn):bn:=a0
def gd (a0:bn):Prop:=bn.Sm (2^36) a0
def R:=RR gd md
def aj {a0}(h:gd a0):R a0=some a0:=aN (a:=a0) h
def aT:=CN [.agg Bb] (.agg f190) RT.dec R
def bt (a0)(hg:gd a0):F a0=ret (md a0):=by
 rfl
def af:cw 182 aT:=W1 11 F mix aE bt .nil Tryz.func182
end Z22
namespace Z23
inductive Pt where
 | p0 (a:aC) (b:Int) (c:aC)
def pid:Pt->Nat
 | .p0 ..=>3
def cg:Pt->List V
 | .p0 a b c=>[.sl none 238 a,.own 0,.int .i64 b]
def bZ:Pt->List aW
 | .p0 a b c=>[.row 190 c]
def step (J:Pt->aH):Pt->aH
 | .p0 a b c=>(cond (decide (b<(a.length:Int))) (m2 b (a.length:Int) (call (Z22.R (bn.at a (toNat b))) fun v1=>(m2 b (c.length:Int) (J (.p0 a (i64.wrap (b+1)) (List.set c (toNat b) (bn.enc v1))))))) (ret (c:aC)))
def start (J:Pt->aH)(x0:aC):aH:=(ck (decide ((0:Int)<=(x0.length:Int))) (ck (decide ((x0.length:Int)<=(x0.length:Int))) (ck (decide ((x0.length:Int)*16<=140737488355328)) (J (.p0 x0 0 (List.replicate (toNat (x0.length:Int)) [L.int 0,L.int 0]))))))
def live:Nat->Live:=fun i=>match i with | 3=>[(0,none),(3,none),(4,none)] | _=>[]
def md (a0:List bn):List bn:=a0
def gd (a0:List bn):Prop:=bL (2^36) (fun y:bn=>bn.Sm (2^36) y) a0
def R:=RR gd md
def aj {a0}(h:gd a0):R (a0.map bn.row)=some (a0.map bn.row):=aN (a:=a0) h
def aT:=CN [pL 238] (oL 190) RT.dec R
def bt (a0)(hg:gd a0):∃n,start (iter step n) (a0.map bn.row)=ret ((md a0).map bn.row):=by
 unfold start md
 simp only [List.length_map]
 refine iw (b:=16) (pt:=fun i c=>Pt.p0 (a0.map bn.row) (i:Int) c) (by have:=hg.1;simp at this;omega) (fun J i h c hc=>?_) (fun J c=>?_)
 ·simp only [step,MM,List.length_map,aL h,aI,bf,cB,bn.dY h,hc]
  rw [call_eq (Z22.aj (hg.get h))]
  try simp only [hc,aL h,bf]
  rw [aG (n:=a0.length) h (by have:=hg.1;simp only [maxLen];simp at this;omega)]
  rfl
 ·simp only [step,List.length_map,dU,bq]
def af:cw 146 aT:=L1 23 pid cg bZ live step start mix aE bt (.cons Z22.af .nil) Tryz.func146
end Z23
namespace Z24
def F (x0:aR):aH:=(call (Z21.R x0.an) fun v1=>(call (Z23.R x0.cm) fun v2=>ret ((⟨v1,v2⟩:aR):aR)))
def md (a0:aa):aa:=a0
def gd (a0:aa):Prop:=aa.Sm (2^36) a0
def R:=RR gd md
def aj {a0}(h:gd a0):R (aa.r a0)=some (aa.r a0):=aN (a:=a0) h
def aT:=CN [.agg Ah] (.agg f141) RT.dec R
def bt (a0)(hg:gd a0):F (aa.r a0)=ret (aa.r (md a0)):=by
 unfold md
 show (call (Z21.R (aF.r a0.an)) fun v1=>(call (Z23.R (a0.cm.map bn.row)) fun v2=>ret ((⟨v1,v2⟩:aR):aR)))=_
 rw [call_eq (Z21.aj hg.1)]
 rw [call_eq (Z23.aj hg.2)]
 rfl
def af:cw 116 aT:=W1 13 F mix aE bt (.cons Z21.af (.cons Z23.af .nil)) Tryz.func116
end Z24
namespace Z25
inductive Pt where
 | p0 (a:aC) (b:Int) (c:aC)
def pid:Pt->Nat
 | .p0 ..=>3
def cg:Pt->List V
 | .p0 a b c=>[.sl none 130 a,.own 0,.int .i64 b]
def bZ:Pt->List aW
 | .p0 a b c=>[.row 141 c]
def step (J:Pt->aH):Pt->aH
 | .p0 a b c=>(cond (decide (b<(a.length:Int))) (m2 b (a.length:Int) (call (Z24.R (aR.at a (toNat b))) fun v1=>(m2 b (c.length:Int) (J (.p0 a (i64.wrap (b+1)) (List.set c (toNat b) (aR.enc v1))))))) (ret (c:aC)))
def start (J:Pt->aH)(x0:aC):aH:=(ck (decide ((0:Int)<=(x0.length:Int))) (ck (decide ((x0.length:Int)<=(x0.length:Int))) (ck (decide ((x0.length:Int)*200<=140737488355328)) (J (.p0 x0 0 (List.replicate (toNat (x0.length:Int)) [L.int 0,L.int 0,L.int 0,L.int 0,L.int 0,L.int 0,L.int 0,L.int 0,L.sl [],L.int 0,L.sl [],L.int 0,L.int 0,L.sl [],L.int 0,L.bool false,L.sl []]))))))
def live:Nat->Live:=fun i=>match i with | 3=>[(0,none),(3,none),(4,none)] | _=>[]
def md (a0:List aa):List aa:=a0
def gd (a0:List aa):Prop:=bL (2^36) (fun y:aa=>aa.Sm (2^36) y) a0
def R:=RR gd md
def aj {a0}(h:gd a0):R (a0.map aa.row)=some (a0.map aa.row):=aN (a:=a0) h
def aT:=CN [pL 130] (oL 141) RT.dec R
def bt (a0)(hg:gd a0):∃n,start (iter step n) (a0.map aa.row)=ret ((md a0).map aa.row):=by
 unfold start md
 simp only [List.length_map]
 refine iw (b:=200) (pt:=fun i c=>Pt.p0 (a0.map aa.row) (i:Int) c) (by have:=hg.1;simp at this;omega) (fun J i h c hc=>?_) (fun J c=>?_)
 ·simp only [step,MM,List.length_map,aL h,aI,bf,cB,aa.dY h,hc]
  rw [call_eq (Z24.aj (hg.get h))]
  try simp only [hc,aL h,bf]
  rw [aG (n:=a0.length) h (by have:=hg.1;simp only [maxLen];simp at this;omega)]
  rfl
 ·simp only [step,List.length_map,dU,bq]
def af:cw 86 aT:=L1 23 pid cg bZ live step start mix aE bt (.cons Z24.af .nil) Tryz.func86
end Z25
namespace Z26
inductive Pt where
 | p0 (a:aC) (b:Int) (c:aC)
def pid:Pt->Nat
 | .p0 ..=>3
def cg:Pt->List V
 | .p0 a b c=>[.sl none 122 a,.own 0,.int .i64 b]
def bZ:Pt->List aW
 | .p0 a b c=>[.row 134 c]
def step (J:Pt->aH):Pt->aH
 | .p0 a b c=>(cond (decide (b<(a.length:Int))) (m2 b (a.length:Int) (call (Z25.R (og a (toNat b))) fun v1=>(m2 b (c.length:Int) (J (.p0 a (i64.wrap (b+1)) (List.set c (toNat b) [L.sl v1])))))) (ret (c:aC)))
def start (J:Pt->aH)(x0:aC):aH:=(ck (decide ((0:Int)<=(x0.length:Int))) (ck (decide ((x0.length:Int)<=(x0.length:Int))) (ck (decide ((x0.length:Int)*24<=140737488355328)) (J (.p0 x0 0 (List.replicate (toNat (x0.length:Int)) [L.sl []]))))))
def live:Nat->Live:=fun i=>match i with | 3=>[(0,none),(3,none),(4,none)] | _=>[]
def md (a0:List (List aa)):List (List aa):=a0
def gd (a0:List (List aa)):Prop:=bL (2^36) (fun y:List aa=>bL (2^36) (fun y:aa=>aa.Sm (2^36) y) y) a0
def R:=RR gd md
def aj {a0}(h:gd a0):R (a0.map (dG aa.row))=some (a0.map (dG aa.row)):=aN (a:=a0) h
def aT:=CN [pL 122] (oL 134) RT.dec R
def bt (a0)(hg:gd a0):∃n,start (iter step n) (a0.map (dG aa.row))=ret ((md a0).map (dG aa.row)):=by
 unfold start md
 simp only [List.length_map]
 refine iw (b:=24) (pt:=fun i c=>Pt.p0 (a0.map (dG aa.row)) (i:Int) c) (by have:=hg.1;simp at this;omega) (fun J i h c hc=>?_) (fun J c=>?_)
 ·simp only [step,MM,List.length_map,aL h,aI,bf,cB,pR h,hc]
  rw [call_eq (Z25.aj (hg.get h))]
  try simp only [hc,aL h,bf]
  rw [aG (n:=a0.length) h (by have:=hg.1;simp only [maxLen];simp at this;omega)]
  rfl
 ·simp only [step,List.length_map,dU,bq]
def af:cw 44 aT:=L1 23 pid cg bZ live step start mix aE bt (.cons Z25.af .nil) Tryz.func44
end Z26
namespace Z27
def F (x0:bH):aH:=(call (Z24.R x0.aQ) fun v1=>(call (Z24.R x0.fA) fun v2=>(call (Z24.R x0.fB) fun v3=>ret ((⟨v1,v2,v3⟩:bH):bH))))
def md (a0:az):az:=a0
def gd (a0:az):Prop:=az.Sm (2^36) a0
def R:=RR gd md
def aj {a0}(h:gd a0):R (az.r a0)=some (az.r a0):=aN (a:=a0) h
def aT:=CN [.agg Ar] (.agg f143) RT.dec R
def bt (a0)(hg:gd a0):F (az.r a0)=ret (az.r (md a0)):=by
 unfold md
 show (call (Z24.R (aa.r a0.aQ)) fun v1=>(call (Z24.R (aa.r a0.fA)) fun v2=>(call (Z24.R (aa.r a0.fB)) fun v3=>ret ((⟨v1,v2,v3⟩:bH):bH))))=_
 rw [call_eq (Z24.aj hg.1)]
 rw [call_eq (Z24.aj hg.2.1)]
 rw [call_eq (Z24.aj hg.2.2)]
 rfl
def af:cw 87 aT:=W1 17 F mix aE bt (.cons Z24.af .nil) Tryz.func87
end Z27
namespace Z28
inductive Pt where
 | p0 (a:aC) (b:Int) (c:aC)
def pid:Pt->Nat
 | .p0 ..=>3
def cg:Pt->List V
 | .p0 a b c=>[.sl none 132 a,.own 0,.int .i64 b]
def bZ:Pt->List aW
 | .p0 a b c=>[.row 143 c]
def step (J:Pt->aH):Pt->aH
 | .p0 a b c=>(cond (decide (b<(a.length:Int))) (m2 b (a.length:Int) (call (Z27.R (bH.at a (toNat b))) fun v1=>(m2 b (c.length:Int) (J (.p0 a (i64.wrap (b+1)) (List.set c (toNat b) (bH.enc v1))))))) (ret (c:aC)))
def start (J:Pt->aH)(x0:aC):aH:=(ck (decide ((0:Int)<=(x0.length:Int))) (ck (decide ((x0.length:Int)<=(x0.length:Int))) (ck (decide ((x0.length:Int)*600<=140737488355328)) (J (.p0 x0 0 (List.replicate (toNat (x0.length:Int)) [L.int 0,L.int 0,L.int 0,L.int 0,L.int 0,L.int 0,L.int 0,L.int 0,L.sl [],L.int 0,L.sl [],L.int 0,L.int 0,L.sl [],L.int 0,L.bool false,L.sl [],L.int 0,L.int 0,L.int 0,L.int 0,L.int 0,L.int 0,L.int 0,L.int 0,L.sl [],L.int 0,L.sl [],L.int 0,L.int 0,L.sl [],L.int 0,L.bool false,L.sl [],L.int 0,L.int 0,L.int 0,L.int 0,L.int 0,L.int 0,L.int 0,L.int 0,L.sl [],L.int 0,L.sl [],L.int 0,L.int 0,L.sl [],L.int 0,L.bool false,L.sl []]))))))
def live:Nat->Live:=fun i=>match i with | 3=>[(0,none),(3,none),(4,none)] | _=>[]
def md (a0:List az):List az:=a0
def gd (a0:List az):Prop:=bL (2^36) (fun y:az=>az.Sm (2^36) y) a0
def R:=RR gd md
def aj {a0}(h:gd a0):R (a0.map az.row)=some (a0.map az.row):=aN (a:=a0) h
def aT:=CN [pL 132] (oL 143) RT.dec R
def bt (a0)(hg:gd a0):∃n,start (iter step n) (a0.map az.row)=ret ((md a0).map az.row):=by
 unfold start md
 simp only [List.length_map]
 refine iw (b:=600) (pt:=fun i c=>Pt.p0 (a0.map az.row) (i:Int) c) (by have:=hg.1;simp at this;omega) (fun J i h c hc=>?_) (fun J c=>?_)
 ·simp only [step,MM,List.length_map,aL h,aI,bf,cB,az.dY h,hc]
  rw [call_eq (Z27.aj (hg.get h))]
  try simp only [hc,aL h,bf]
  rw [aG (n:=a0.length) h (by have:=hg.1;simp only [maxLen];simp at this;omega)]
  rfl
 ·simp only [step,List.length_map,dU,bq]
def af:cw 45 aT:=L1 23 pid cg bZ live step start mix aE bt (.cons Z27.af .nil) Tryz.func45
end Z28
namespace Z29
def F (x0:bu):aH:=(call (Z26.R x0.aJ) fun v1=>(call (Z28.R x0.bp) fun v2=>ret ((⟨v1,v2⟩:bu):bu)))
def md (a0:aq):aq:=a0
def gd (a0:aq):Prop:=aq.Sm (2^36) a0
def R:=RR gd md
def aj {a0}(h:gd a0):R (aq.r a0)=some (aq.r a0):=aN (a:=a0) h
def aT:=CN [.agg Bq] (.agg f37) RT.dec R
def bt (a0)(hg:gd a0):F (aq.r a0)=ret (aq.r (md a0)):=by
 unfold md
 show (call (Z26.R (a0.aJ.map (dG aa.row))) fun v1=>(call (Z28.R (a0.bp.map az.row)) fun v2=>ret ((⟨v1,v2⟩:bu):bu)))=_
 rw [call_eq (Z26.aj hg.1)]
 rw [call_eq (Z28.aj hg.2)]
 rfl
def af:cw 11 aT:=W1 13 F mix aE bt (.cons Z26.af (.cons Z28.af .nil)) Tryz.func11
end Z29
namespace Z30
inductive Pt where
 | p0 (a:aC) (b:Int) (c:aC)
def pid:Pt->Nat
 | .p0 ..=>3
def cg:Pt->List V
 | .p0 a b c=>[.sl none 9 a,.own 0,.int .i64 b]
def bZ:Pt->List aW
 | .p0 a b c=>[.row 9 c]
def step (J:Pt->aH):Pt->aH
 | .p0 a b c=>(cond (decide (b<(a.length:Int))) (m2 b (a.length:Int) (m2 b (c.length:Int) (J (.p0 a (i64.wrap (b+1)) (List.set c (toNat b) [L.str (pV a (toNat b))]))))) (ret (c:aC)))
def start (J:Pt->aH)(x0:aC):aH:=(ck (decide ((0:Int)<=(x0.length:Int))) (ck (decide ((x0.length:Int)<=(x0.length:Int))) (ck (decide ((x0.length:Int)*16<=140737488355328)) (J (.p0 x0 0 (List.replicate (toNat (x0.length:Int)) [L.str ⟨#[]⟩]))))))
def live:Nat->Live:=fun i=>match i with | 3=>[(0,none),(3,none),(4,none)] | _=>[]
def md (a0:List aB):List aB:=a0
def gd (a0:List aB):Prop:=bL (2^36) (fun y:aB=>y.size<=(2^36)) a0
def R:=RR gd md
def aj {a0}(h:gd a0):R (a0.map cF)=some (a0.map cF):=aN (a:=a0) h
def aT:=CN [pL 9] (oL 9) RT.dec R
def bt (a0)(hg:gd a0):∃n,start (iter step n) (a0.map cF)=ret ((md a0).map cF):=by
 unfold start md
 simp only [List.length_map]
 refine iw (b:=16) (pt:=fun i c=>Pt.p0 (a0.map cF) (i:Int) c) (by have:=hg.1;simp at this;omega) (fun J i h c hc=>?_) (fun J c=>?_)
 ·simp only [step,MM,List.length_map,aL h,aI,bf,cB,pP h,hc]
  rw [aG (n:=a0.length) h (by have:=hg.1;simp only [maxLen];simp at this;omega)]
  rfl
 ·simp only [step,List.length_map,dU,bq]
def af:cw 14 aT:=L1 22 pid cg bZ live step start mix aE bt .nil Tryz.func14
end Z30
namespace Z31
def F (x0:aU):aH:=(call (Z30.R x0.bI) fun v1=>ret ((⟨x0.bk,x0.bK,x0.bW,v1⟩:aU):aU))
def md (a0:ah):ah:=a0
def gd (a0:ah):Prop:=ah.Sm (2^36) a0
def R:=RR gd md
def aj {a0}(h:gd a0):R (ah.r a0)=some (ah.r a0):=aN (a:=a0) h
def aT:=CN [.agg AO] (.agg f57) RT.dec R
def bt (a0)(hg:gd a0):F (ah.r a0)=ret (ah.r (md a0)):=by
 unfold md
 show (call (Z30.R (a0.bI.map cF)) fun v1=>ret ((⟨a0.bk,a0.bK,a0.bW,v1⟩:aU):aU))=_
 rw [call_eq (Z30.aj hg.2)]
 rfl
def af:cw 183 aT:=W1 18 F mix aE bt (.cons Z30.af .nil) Tryz.func183
end Z31
namespace Z32
inductive Pt where
 | p0 (a:aC) (b:Int) (c:aC)
def pid:Pt->Nat
 | .p0 ..=>3
def cg:Pt->List V
 | .p0 a b c=>[.sl none 235 a,.own 0,.int .i64 b]
def bZ:Pt->List aW
 | .p0 a b c=>[.row 57 c]
def step (J:Pt->aH):Pt->aH
 | .p0 a b c=>(cond (decide (b<(a.length:Int))) (m2 b (a.length:Int) (call (Z31.R (aU.at a (toNat b))) fun v1=>(m2 b (c.length:Int) (J (.p0 a (i64.wrap (b+1)) (List.set c (toNat b) (aU.enc v1))))))) (ret (c:aC)))
def start (J:Pt->aH)(x0:aC):aH:=(ck (decide ((0:Int)<=(x0.length:Int))) (ck (decide ((x0.length:Int)<=(x0.length:Int))) (ck (decide ((x0.length:Int)*56<=140737488355328)) (J (.p0 x0 0 (List.replicate (toNat (x0.length:Int)) [L.str ⟨#[]⟩,L.int 0,L.int 0,L.sl []]))))))
def live:Nat->Live:=fun i=>match i with | 3=>[(0,none),(3,none),(4,none)] | _=>[]
def md (a0:List ah):List ah:=a0
def gd (a0:List ah):Prop:=bL (2^36) (fun y:ah=>ah.Sm (2^36) y) a0
def R:=RR gd md
def aj {a0}(h:gd a0):R (a0.map ah.row)=some (a0.map ah.row):=aN (a:=a0) h
def aT:=CN [pL 235] (oL 57) RT.dec R
def bt (a0)(hg:gd a0):∃n,start (iter step n) (a0.map ah.row)=ret ((md a0).map ah.row):=by
 unfold start md
 simp only [List.length_map]
 refine iw (b:=56) (pt:=fun i c=>Pt.p0 (a0.map ah.row) (i:Int) c) (by have:=hg.1;simp at this;omega) (fun J i h c hc=>?_) (fun J c=>?_)
 ·simp only [step,MM,List.length_map,aL h,aI,bf,cB,ah.dY h,hc]
  rw [call_eq (Z31.aj (hg.get h))]
  try simp only [hc,aL h,bf]
  rw [aG (n:=a0.length) h (by have:=hg.1;simp only [maxLen];simp at this;omega)]
  rfl
 ·simp only [step,List.length_map,dU,bq]
def af:cw 147 aT:=L1 23 pid cg bZ live step start mix aE bt (.cons Z31.af .nil) Tryz.func147
end Z32
namespace Z33
def F (x0:dL):aH:=(call (Z25.R x0.aS) fun v1=>(call (Z32.R x0.bM) fun v2=>ret ((⟨v1,v2⟩:dL):dL)))
def md (a0:aK):aK:=a0
def gd (a0:aK):Prop:=aK.Sm (2^36) a0
def R:=RR gd md
def aj {a0}(h:gd a0):R (aK.r a0)=some (aK.r a0):=aN (a:=a0) h
def aT:=CN [.agg Az] (.agg f155) RT.dec R
def bt (a0)(hg:gd a0):F (aK.r a0)=ret (aK.r (md a0)):=by
 unfold md
 show (call (Z25.R (a0.aS.map aa.row)) fun v1=>(call (Z32.R (a0.bM.map ah.row)) fun v2=>ret ((⟨v1,v2⟩:dL):dL)))=_
 rw [call_eq (Z25.aj hg.1)]
 rw [call_eq (Z32.aj hg.2)]
 rfl
def af:cw 117 aT:=W1 13 F mix aE bt (.cons Z25.af (.cons Z32.af .nil)) Tryz.func117
end Z33
namespace Z34
inductive Pt where
 | p0 (a:aC) (b:Int) (c:aC)
def pid:Pt->Nat
 | .p0 ..=>3
def cg:Pt->List V
 | .p0 a b c=>[.sl none 183 a,.own 0,.int .i64 b]
def bZ:Pt->List aW
 | .p0 a b c=>[.row 155 c]
def step (J:Pt->aH):Pt->aH
 | .p0 a b c=>(cond (decide (b<(a.length:Int))) (m2 b (a.length:Int) (call (Z33.R (dL.at a (toNat b))) fun v1=>(m2 b (c.length:Int) (J (.p0 a (i64.wrap (b+1)) (List.set c (toNat b) (dL.enc v1))))))) (ret (c:aC)))
def start (J:Pt->aH)(x0:aC):aH:=(ck (decide ((0:Int)<=(x0.length:Int))) (ck (decide ((x0.length:Int)<=(x0.length:Int))) (ck (decide ((x0.length:Int)*48<=140737488355328)) (J (.p0 x0 0 (List.replicate (toNat (x0.length:Int)) [L.sl [],L.sl []]))))))
def live:Nat->Live:=fun i=>match i with | 3=>[(0,none),(3,none),(4,none)] | _=>[]
def md (a0:List aK):List aK:=a0
def gd (a0:List aK):Prop:=bL (2^36) (fun y:aK=>aK.Sm (2^36) y) a0
def R:=RR gd md
def aj {a0}(h:gd a0):R (a0.map aK.row)=some (a0.map aK.row):=aN (a:=a0) h
def aT:=CN [pL 183] (oL 155) RT.dec R
def bt (a0)(hg:gd a0):∃n,start (iter step n) (a0.map aK.row)=ret ((md a0).map aK.row):=by
 unfold start md
 simp only [List.length_map]
 refine iw (b:=48) (pt:=fun i c=>Pt.p0 (a0.map aK.row) (i:Int) c) (by have:=hg.1;simp at this;omega) (fun J i h c hc=>?_) (fun J c=>?_)
 ·simp only [step,MM,List.length_map,aL h,aI,bf,cB,aK.dY h,hc]
  rw [call_eq (Z33.aj (hg.get h))]
  try simp only [hc,aL h,bf]
  rw [aG (n:=a0.length) h (by have:=hg.1;simp only [maxLen];simp at this;omega)]
  rfl
 ·simp only [step,List.length_map,dU,bq]
def af:cw 88 aT:=L1 23 pid cg bZ live step start mix aE bt (.cons Z33.af .nil) Tryz.func88
end Z34
namespace Z35
def F (x0:cL):aH:=(call (Z34.R x0.bG) fun v1=>ret ((⟨v1,x0.gI⟩:cL):cL))
def md (a0:av):av:=a0
def gd (a0:av):Prop:=av.Sm (2^36) a0
def R:=RR gd md
def aj {a0}(h:gd a0):R (av.r a0)=some (av.r a0):=aN (a:=a0) h
def aT:=CN [.agg Bs] (.agg f88) RT.dec R
def bt (a0)(hg:gd a0):F (av.r a0)=ret (av.r (md a0)):=by
 unfold md
 show (call (Z34.R (a0.bG.map aK.row)) fun v1=>ret ((⟨v1,a0.gI⟩:cL):cL))=_
 rw [call_eq (Z34.aj hg)]
 rfl
def af:cw 46 aT:=W1 12 F mix aE bt (.cons Z34.af .nil) Tryz.func46
end Z35
namespace Z36
inductive Pt where
 | p0 (a:aC) (b:Int) (c:aC)
def pid:Pt->Nat
 | .p0 ..=>3
def cg:Pt->List V
 | .p0 a b c=>[.sl none 78 a,.own 0,.int .i64 b]
def bZ:Pt->List aW
 | .p0 a b c=>[.row 88 c]
def step (J:Pt->aH):Pt->aH
 | .p0 a b c=>(cond (decide (b<(a.length:Int))) (m2 b (a.length:Int) (call (Z35.R (cL.at a (toNat b))) fun v1=>(m2 b (c.length:Int) (J (.p0 a (i64.wrap (b+1)) (List.set c (toNat b) (cL.enc v1))))))) (ret (c:aC)))
def start (J:Pt->aH)(x0:aC):aH:=(ck (decide ((0:Int)<=(x0.length:Int))) (ck (decide ((x0.length:Int)<=(x0.length:Int))) (ck (decide ((x0.length:Int)*32<=140737488355328)) (J (.p0 x0 0 (List.replicate (toNat (x0.length:Int)) [L.sl [],L.int 0]))))))
def live:Nat->Live:=fun i=>match i with | 3=>[(0,none),(3,none),(4,none)] | _=>[]
def md (a0:List av):List av:=a0
def gd (a0:List av):Prop:=bL (2^36) (fun y:av=>av.Sm (2^36) y) a0
def R:=RR gd md
def aj {a0}(h:gd a0):R (a0.map av.row)=some (a0.map av.row):=aN (a:=a0) h
def aT:=CN [pL 78] (oL 88) RT.dec R
def bt (a0)(hg:gd a0):∃n,start (iter step n) (a0.map av.row)=ret ((md a0).map av.row):=by
 unfold start md
 simp only [List.length_map]
 refine iw (b:=32) (pt:=fun i c=>Pt.p0 (a0.map av.row) (i:Int) c) (by have:=hg.1;simp at this;omega) (fun J i h c hc=>?_) (fun J c=>?_)
 ·simp only [step,MM,List.length_map,aL h,aI,bf,cB,av.dY h,hc]
  rw [call_eq (Z35.aj (hg.get h))]
  try simp only [hc,aL h,bf]
  rw [aG (n:=a0.length) h (by have:=hg.1;simp only [maxLen];simp at this;omega)]
  rfl
 ·simp only [step,List.length_map,dU,bq]
def af:cw 12 aT:=L1 23 pid cg bZ live step start mix aE bt (.cons Z35.af .nil) Tryz.func12
end Z36
namespace Z37
def F (x0:bF):aH:=ret (x0:bF)
def md (a0:bF):bF:=a0
def gd (a0:bF):Prop:=bF.Sm (2^36) a0
def R:=RR gd md
def aj {a0}(h:gd a0):R a0=some a0:=aN (a:=a0) h
def aT:=CN [.agg AK] (.agg f118) RT.dec R
def bt (a0)(hg:gd a0):F a0=ret (md a0):=by
 unfold md
 show ret (a0:bF)=_
 rfl
def af:cw 78 aT:=W1 11 F mix aE bt .nil Tryz.func78
end Z37
namespace Z38
inductive Pt where
 | p0 (a:aC) (b:Int) (c:aC)
def pid:Pt->Nat
 | .p0 ..=>3
def cg:Pt->List V
 | .p0 a b c=>[.sl none 115 a,.own 0,.int .i64 b]
def bZ:Pt->List aW
 | .p0 a b c=>[.row 118 c]
def step (J:Pt->aH):Pt->aH
 | .p0 a b c=>(cond (decide (b<(a.length:Int))) (m2 b (a.length:Int) (call (Z37.R (bF.at a (toNat b))) fun v1=>(m2 b (c.length:Int) (J (.p0 a (i64.wrap (b+1)) (List.set c (toNat b) (bF.enc v1))))))) (ret (c:aC)))
def start (J:Pt->aH)(x0:aC):aH:=(ck (decide ((0:Int)<=(x0.length:Int))) (ck (decide ((x0.length:Int)<=(x0.length:Int))) (ck (decide ((x0.length:Int)*24<=140737488355328)) (J (.p0 x0 0 (List.replicate (toNat (x0.length:Int)) [L.str ⟨#[]⟩,L.int 0]))))))
def live:Nat->Live:=fun i=>match i with | 3=>[(0,none),(3,none),(4,none)] | _=>[]
def md (a0:List bF):List bF:=a0
def gd (a0:List bF):Prop:=bL (2^36) (fun y:bF=>bF.Sm (2^36) y) a0
def R:=RR gd md
def aj {a0}(h:gd a0):R (a0.map bF.row)=some (a0.map bF.row):=aN (a:=a0) h
def aT:=CN [pL 115] (oL 118) RT.dec R
def bt (a0)(hg:gd a0):∃n,start (iter step n) (a0.map bF.row)=ret ((md a0).map bF.row):=by
 unfold start md
 simp only [List.length_map]
 refine iw (b:=24) (pt:=fun i c=>Pt.p0 (a0.map bF.row) (i:Int) c) (by have:=hg.1;simp at this;omega) (fun J i h c hc=>?_) (fun J c=>?_)
 ·simp only [step,MM,List.length_map,aL h,aI,bf,cB,bF.dY h,hc]
  rw [call_eq (Z37.aj (hg.get h))]
  try simp only [hc,aL h,bf]
  rw [aG (n:=a0.length) h (by have:=hg.1;simp only [maxLen];simp at this;omega)]
  rfl
 ·simp only [step,List.length_map,dU,bq]
def af:cw 35 aT:=L1 23 pid cg bZ live step start mix aE bt (.cons Z37.af .nil) Tryz.func35
end Z38
namespace Z39
inductive Pt where
 | p0 (a:aC) (b:aB) (c:Int)
def pid:Pt->Nat
 | .p0 ..=>2
def cg:Pt->List V
 | .p0 a b c=>[.sl none 118 a,.str b,.int .i64 c]
def bZ:Pt->List aW
 | .p0 a b c=>[]
def step (J:Pt->aH):Pt->aH
 | .p0 a b c=>(cond (decide (c<(a.length:Int))) (m2 c (a.length:Int) (cond ((bF.at a (toNat c)).fName==b) (ret (c:Int)) (J (.p0 a b (i64.wrap (c+1)))))) (ret ((-1):Int)))
def start (J:Pt->aH)(x0:aC)(x1:aB):aH:=J (.p0 x0 x1 0)
def live:Nat->Live:=fun i=>match i with | 2=>[(0,none),(1,none),(5,none)] | _=>[]
def md (a0:List bF)(a1:aB):Int:=(dQ (S:=Unit) (β:=Int) (fun (i1:Nat) (y1:bF) (s3:Unit)=>(cond (y1.fName==a1) (.inr ((i1:Int):Int)) (.inl ()))) (fun (s3:Unit)=>((-1):Int)) 0 a0 ())
def gd (a0:List bF)(a1:aB):Prop:=(bL (2^21) (fun y:bF=>bF.Sm (2^21) y) a0)
def R:=RR (p2 gd) (u2 md)
def aj {a0 a1}(h:gd a0 a1):R ((a0.map bF.row),a1)=some (md a0 a1):=aN (a:=(a0,a1)) h
def aT:=CN [pL 118,pS] oI RT.dec R
def bt (a0)(a1)(hg:gd a0 a1):∃n,start (iter step n) (a0.map bF.row) a1=ret (md a0 a1):=by
 unfold gd at hg
 have H0:=hg
 unfold start md
 try simp only [SS]
 have Bh2:a0.length<=maxLen:=(by
   have:=(H0).1
   try simp only [maxLen] at *
   omega)
 refine ex_eq (out:=ret) (cR (z:=bF.zero)) ?_
 refine dK (p:=Pt.p0 (a0.map bF.row) a1 0) fz ?_
 refine cj (pt:=fun (i1:Nat) (s3:Unit)=>Pt.p0 (a0.map bF.row) a1 (i1:Int)) (s:=(():Unit)) (out:=ret) (fun _ _=>True) (fun J i1 s3 h2 hih2=>?_) (fun s3 hih2=>?_) trivial
 ·simp only [step,SS]
  have bb_:=Bh2
  simp only [maxLen] at bb_
  have:=(H0).1
  refine bz.yes (by apply decide_eq_true;omega) ?_
  refine bz.yes aI ?_
  refine bz.yes (aL h2) ?_
  refine bz.bif (fun c4=>?_) (fun c4=>?_)
  ·refine bz.inr ?_
   all_goals exact fz
  ·refine bz.inl trivial ?_
   rw [aG h2 Bh2]
   all_goals exact fz
 ·simp only [step,SS]
  have:=(H0).1
  refine dx (by apply decide_eq_false;omega) ?_
  refine ⟨0,?_⟩
  all_goals exact fz
def af:cw 111 aT:=L2 20 pid cg bZ live step start mix aE bt .nil Tryz.func111
def fa (a0:List bF)(a1:aB):-1<=md a0 a1/\md a0 a1<(a0.length:Int):=by
 unfold md
 refine fD ?_ _ _
 all_goals
  intro i x s b h
  revert h
  simp only [Bool.cond_eq_ite]
  repeat' split
  all_goals (intro h;first | (cases h;rfl) | cases h)
end Z39
namespace Z40
def F (x0:aC)(x1:aB):aH:=(call (Z39.R (x0,x1)) fun v1=>(cond (decide (v1<0)) (ret (((-1),false):Int×Bool)) (m2 v1 (x0.length:Int) (ret (((bF.at x0 (toNat v1)).bC,true):Int×Bool)))))
def md (a0:List bF)(a1:aB):Int×Bool:=(cond (decide ((Z39.md a0 a1)<0)) ((-1),false) ((a0.getD (toNat (Z39.md a0 a1)) bF.zero).bC,true))
def gd (a0:List bF)(a1:aB):Prop:=(bL (2^21) (fun y:bF=>bF.Sm (2^21) y) a0)
def R:=RR (p2 gd) (u2 md)
def aj {a0 a1}(h:gd a0 a1):R ((a0.map bF.row),a1)=some ((md a0 a1).1,(md a0 a1).2):=aN (a:=(a0,a1)) h
def aT:=CN [pL 118,pS] (.iE [(false,[fI]),(false,[fB])]) RT.dec R
def bt (a0)(a1)(hg:gd a0 a1):F (a0.map bF.row) a1=ret ((md a0 a1).1,(md a0 a1).2):=by
 unfold gd at hg
 have H0:=hg
 unfold F md
 try simp only [SS]
 refine ct (Z39.aj H0) ?_
 have fv1_:=Z39.fa a0 a1
 refine au (fun b:Int×Bool=>ret ((b.1,b.2):Int×Bool)) (fun _=>rfl) (fun c1=>?_)
 have dc1:=c1
 try simp only [DC] at dc1
 refine ak dt ?_
 refine ak (have:=(H0).1;dt) ?_
 all_goals exact fz
def af:cw 77 aT:=W2 17 F mix aE bt (.cons Z39.af .nil) Tryz.func77
end Z40
namespace Z41
def F (x0:bD):aH:=(ck (eT ((x0.aX.length:Int)*8)) (ret (x0:bD)))
def md (a0:aO):aO:=a0
def gd (a0:aO):Prop:=(aO.Sm (2^21) a0)
def R:=RR gd md
def aj {a0}(h:gd a0):R (aO.r a0)=some (aO.r a0):=aN (a:=a0) h
def aT:=CN [.agg iU] (.agg f136) RT.dec R
def bt (a0)(hg:gd a0):F (aO.r a0)=ret (aO.r (md a0)):=by
 unfold gd at hg
 have H0:=hg
 unfold F md
 try simp only [SS]
 refine ak (have:=(H0).1;lm) ?_
 all_goals exact fz
def af:cw 154 aT:=W1 10 F mix aE bt .nil Tryz.func154
end Z41
namespace Z42
def F (x0:bY):aH:=(call (Z41.R x0.bQ) fun v1=>(call (Z41.R x0.bB) fun v2=>(call (Z41.R x0.bw) fun v3=>ret ((⟨x0.bC,x0.cI,x0.bK,x0.cG,x0.cz,x0.cq,x0.cW,x0.dy,v1,v2,x0.cY,v3,x0.bE⟩:bY):bY))))
def md (a0:aF):aF:=a0
def gd (a0:aF):Prop:=(aF.Sm (2^21) a0)
def R:=RR gd md
def aj {a0}(h:gd a0):R (aF.r a0)=some (aF.r a0):=aN (a:=a0) h
def aT:=CN [.agg fW] (.agg f138) RT.dec R
def bt (a0)(hg:gd a0):F (aF.r a0)=ret (aF.r (md a0)):=by
 unfold gd at hg
 have H0:=hg
 unfold F md
 try simp only [SS]
 refine ct (Z41.aj H0.1) ?_
 try simp only [SS]
 refine ct (Z41.aj H0.2.1) ?_
 try simp only [SS]
 refine ct (Z41.aj H0.2.2) ?_
 try simp only [SS]
 all_goals exact fz
def af:cw 122 aT:=W1 18 F mix aE bt (.cons Z41.af .nil) Tryz.func122
end Z42
namespace Z43
def F (x0:aR):aH:=(call (Z42.R x0.an) fun v1=>(ck (eT ((x0.cm.length:Int)*16)) (ret ((⟨v1,x0.cm⟩:aR):aR))))
def md (a0:aa):aa:=a0
def gd (a0:aa):Prop:=(aa.Sm (2^21) a0)
def R:=RR gd md
def aj {a0}(h:gd a0):R (aa.r a0)=some (aa.r a0):=aN (a:=a0) h
def aT:=CN [.agg kE] (.agg f141) RT.dec R
def bt (a0)(hg:gd a0):F (aa.r a0)=ret (aa.r (md a0)):=by
 unfold gd at hg
 have H0:=hg
 unfold F md
 try simp only [SS]
 refine ct (Z42.aj H0.1) ?_
 try simp only [SS]
 refine ak (have:=(H0.2).1;lm) ?_
 all_goals exact fz
def af:cw 115 aT:=W1 11 F mix aE bt (.cons Z42.af .nil) Tryz.func115
end Z43
namespace Z44
inductive Pt where
 | p0 (a:aC) (b:Int) (c:aC)
def pid:Pt->Nat
 | .p0 ..=>3
def cg:Pt->List V
 | .p0 a b c=>[.sl none 141 a,.own 0,.int .i64 b]
def bZ:Pt->List aW
 | .p0 a b c=>[.row 141 c]
def step (J:Pt->aH):Pt->aH
 | .p0 a b c=>(cond (decide (b<(a.length:Int))) (m2 b (a.length:Int) (call (Z43.R (aR.at a (toNat b))) fun v1=>(ck (eT (((c.length:Int)+1)*200)) (J (.p0 a (i64.wrap (b+1)) (c++[(aR.enc v1)])))))) (ret (c:aC)))
def start (J:Pt->aH)(x0:aC):aH:=J (.p0 x0 0 [])
def live:Nat->Live:=fun i=>match i with | 3=>[(0,none),(3,some 141),(4,none)] | _=>[]
def md (a0:List aa):List aa:=a0
def gd (a0:List aa):Prop:=(bL (2^21) (fun y:aa=>aa.Sm (2^21) y) a0)
def R:=RR gd md
def aj {a0}(h:gd a0):R (a0.map aa.row)=some (a0.map aa.row):=aN (a:=a0) h
def aT:=CN [pL 141] (oL 141) RT.dec R
def bt (a0)(hg:gd a0):∃n,start (iter step n) (a0.map aa.row)=ret ((md a0).map aa.row):=by
 unfold gd at hg
 have H0:=hg
 unfold start md
 try simp only [SS]
 have Bh2:a0.length<=maxLen:=(by
   have:=(H0).1
   try simp only [maxLen] at *
   omega)
 refine ex_eq (out:=(fun b:List aa=>ret ((b.map aa.row):aC))) (hO (xs:=a0) (z:=aa.zero) (t:=fun s3:List aa=>s3)) ?_
 refine dK (p:=Pt.p0 (a0.map aa.row) 0 ([].map aa.row)) fz ?_
 refine cj (pt:=fun (i1:Nat) (s3:List aa)=>Pt.p0 (a0.map aa.row) (i1:Int) (s3.map aa.row)) (s:=([]:List aa)) (out:=(fun b:List aa=>ret ((b.map aa.row):aC))) (fun (i1:Nat) (s3:List aa)=>s3.length<=([]:List Int).length+1*i1) (fun J i1 s3 h2 hih2=>?_) (fun s3 hih2=>?_) (by simp)
 ·simp only [step,SS]
  have gr_:=hih2
  try simp only [LN] at gr_
  have bb_:=Bh2
  simp only [maxLen] at bb_
  have:=(H0).1
  refine bz.yes (by apply decide_eq_true;omega) ?_
  refine bz.yes aI ?_
  refine bz.yes (aL h2) ?_
  refine cr (Z43.aj (bL.getD (z:=aa.zero) H0 h2)) ?_
  try simp only [SS]
  refine bz.yes lm ?_
  refine bz.inl (by
    have g_:=hih2
    try simp only [LN] at g_ ⊢
    first | omega | (simp;done) | (simp;omega)) ?_
  rw [aG h2 Bh2]
  all_goals exact fz
 ·simp only [step,SS]
  have gr_:=hih2
  try simp only [LN] at gr_
  have:=(H0).1
  refine dx (by apply decide_eq_false;omega) ?_
  refine ⟨0,?_⟩
  all_goals exact fz
def af:cw 84 aT:=L1 21 pid cg bZ live step start mix aE bt (.cons Z43.af .nil) Tryz.func84
end Z44
namespace Z45
def F (x0:bH):aH:=(call (Z43.R x0.aQ) fun v1=>(call (Z43.R x0.fA) fun v2=>(call (Z43.R x0.fB) fun v3=>ret ((⟨v1,v2,v3⟩:bH):bH))))
def md (a0:az):az:=a0
def gd (a0:az):Prop:=(az.Sm (2^21) a0)
def R:=RR gd md
def aj {a0}(h:gd a0):R (az.r a0)=some (az.r a0):=aN (a:=a0) h
def aT:=CN [.agg sO] (.agg f143) RT.dec R
def bt (a0)(hg:gd a0):F (az.r a0)=ret (az.r (md a0)):=by
 unfold gd at hg
 have H0:=hg
 unfold F md
 try simp only [SS]
 refine ct (Z43.aj H0.1) ?_
 try simp only [SS]
 refine ct (Z43.aj H0.2.1) ?_
 try simp only [SS]
 refine ct (Z43.aj H0.2.2) ?_
 try simp only [SS]
 all_goals exact fz
def af:cw 85 aT:=W1 13 F mix aE bt (.cons Z43.af .nil) Tryz.func85
end Z45
namespace Z46
inductive Pt where
 | p0 (a:Int) (b:bu) (c:aC)
 | p1 (a:Int) (b:bu) (c d:aC)
def pid:Pt->Nat
 | .p0 ..=>3
 | .p1 ..=>7
def cg:Pt->List V
 | .p0 a b c=>[.cQ 0 0,.cQ 1 0,.cQ 2 0,.int .i64 a,.cQ 2 0]
 | .p1 a b c d=>[.cQ 0 0,.cQ 1 0,.cQ 2 0,.int .i64 a,.cQ 2 0,.cQ 2 0]
def bZ:Pt->List aW
 | .p0 a b c=>[.box [.sl none 134 b.aJ,.sl none 143 b.bp],.box [.nil,.nil],.box [.own 3,.nil],.row 134 c]
 | .p1 a b c d=>[.box [.sl none 134 b.aJ,.sl none 143 b.bp],.box [.nil,.nil],.box [.own 3,.own 4],.row 134 c,.row 143 d]
def step (J:Pt->aH):Pt->aH
 | .p0 a b c=>(cond (decide (a<(b.aJ.length:Int))) (m2 a (b.aJ.length:Int) (call (Z44.R (og b.aJ (toNat a))) fun v1=>(ck (eT (((c.length:Int)+1)*24)) (J (.p0 (i64.wrap (a+1)) b (c++[[L.sl v1]])))))) (J (.p1 0 b c [])))
 | .p1 a b c d=>(cond (decide (a<(b.bp.length:Int))) (m2 a (b.bp.length:Int) (call (Z45.R (bH.at b.bp (toNat a))) fun v1=>(ck (eT (((d.length:Int)+1)*600)) (J (.p1 (i64.wrap (a+1)) b c (d++[(bH.enc v1)])))))) (ret ((⟨c,d⟩:bu):bu)))
def start (J:Pt->aH)(x0:bu):aH:=J (.p0 0 x0 [])
def live:Nat->Live:=fun i=>match i with | 3=>[(1,none),(2,none),(3,none),(4,none),(3,some 134)] | 7=>[(1,none),(2,none),(3,none),(5,none),(3,some 134),(3,some 1048719)] | _=>[]
def md (a0:aq):aq:=a0
def gd (a0:aq):Prop:=(aq.Sm (2^21) a0)
def R:=RR gd md
def aj {a0}(h:gd a0):R (aq.r a0)=some (aq.r a0):=aN (a:=a0) h
def aT:=CN [.agg rK] (.agg f37) RT.dec R
def bt (a0)(hg:gd a0):∃n,start (iter step n) (aq.r a0)=ret (aq.r (md a0)):=by
 unfold gd at hg
 have H0:=hg
 unfold start md
 try simp only [SS]
 have Bh2:a0.aJ.length<=maxLen:=(by
   have:=(H0.1).1
   try simp only [maxLen] at *
   omega)
 refine ex_eq (out:=(fun b:aq=>ret ((aq.r b):bu))) (hO (xs:=a0.aJ) (z:=[]) (t:=fun s3:List (List aa)=>(⟨s3,a0.bp⟩:aq))) ?_
 refine dK (p:=Pt.p0 0 (aq.r a0) ([].map (dG aa.row))) fz ?_
 refine cj (pt:=fun (i1:Nat) (s3:List (List aa))=>Pt.p0 (i1:Int) (aq.r a0) (s3.map (dG aa.row))) (s:=([]:List (List aa))) (out:=(fun b:aq=>ret ((aq.r b):bu))) (fun (i1:Nat) (s3:List (List aa))=>s3.length<=([]:List Int).length+1*i1) (fun J i1 s3 h2 hih2=>?_) (fun s3 hih2=>?_) (by simp)
 ·simp only [step,SS]
  have gr_:=hih2
  try simp only [LN] at gr_
  have bb_:=Bh2
  simp only [maxLen] at bb_
  have:=(H0.1).1
  refine bz.yes (by apply decide_eq_true;omega) ?_
  refine bz.yes aI ?_
  refine bz.yes (aL h2) ?_
  refine cr (Z44.aj (bL.getD (z:=[]) H0.1 h2)) ?_
  try simp only [SS]
  refine bz.yes lm ?_
  refine bz.inl (by
    have g_:=hih2
    try simp only [LN] at g_ ⊢
    first | omega | (simp;done) | (simp;omega)) ?_
  rw [aG h2 Bh2]
  all_goals exact fz
 ·simp only [step,SS]
  have gr_:=hih2
  try simp only [LN] at gr_
  have:=(H0.1).1
  refine dx (by apply decide_eq_false;omega) ?_
  have Bh5:a0.bp.length<=maxLen:=(by
    have:=(H0.2).1
    try simp only [maxLen] at *
    omega)
  refine ex_eq (out:=(fun b:aq=>ret ((aq.r b):bu))) (hO (xs:=a0.bp) (z:=az.zero) (t:=fun s6:List az=>(⟨s3,s6⟩:aq))) ?_
  refine dK (p:=Pt.p1 0 (aq.r a0) (s3.map (dG aa.row)) ([].map az.row)) fz ?_
  refine cj (pt:=fun (i4:Nat) (s6:List az)=>Pt.p1 (i4:Int) (aq.r a0) (s3.map (dG aa.row)) (s6.map az.row)) (s:=([]:List az)) (out:=(fun b:aq=>ret ((aq.r b):bu))) (fun (i4:Nat) (s6:List az)=>s6.length<=([]:List Int).length+1*i4) (fun J i4 s6 h5 hih5=>?_) (fun s6 hih5=>?_) (by simp)
  ·simp only [step,SS]
   have gr_:=hih5
   try simp only [LN] at gr_
   have bb_:=Bh5
   simp only [maxLen] at bb_
   have:=(H0.2).1
   refine bz.yes (by apply decide_eq_true;omega) ?_
   refine bz.yes aI ?_
   refine bz.yes (aL h5) ?_
   refine cr (Z45.aj (bL.getD (z:=az.zero) H0.2 h5)) ?_
   try simp only [SS]
   refine bz.yes lm ?_
   refine bz.inl (by
     have g_:=hih5
     try simp only [LN] at g_ ⊢
     first | omega | (simp;done) | (simp;omega)) ?_
   rw [aG h5 Bh5]
   all_goals exact fz
  ·simp only [step,SS]
   have gr_:=hih5
   try simp only [LN] at gr_
   have:=(H0.2).1
   refine dx (by apply decide_eq_false;omega) ?_
   refine ⟨0,?_⟩
   all_goals exact fz
def af:cw 43 aT:=L1 44 pid cg bZ live step start mix aE bt (.cons Z44.af (.cons Z45.af .nil)) Tryz.func43
end Z46
namespace Z47
def F (x0 x1 x2:Int):aH:=(cond (decide (x0>=x1)) (ret ((decide (x0<=x2)):Bool)) aY)
def md (a0 a1 a2:Int):Bool:=(cond (decide (a0>=a1)) ((decide (a0<=a2)):Bool) (false:Bool))
def gd (a0 a1 a2:Int):Prop:=True
def R:=RR (p3 gd) (u3 md)
def aj {a0 a1 a2}(h:gd a0 a1 a2):R (a0,a1,a2)=some (md a0 a1 a2):=aN (a:=(a0,a1,a2)) h
def aT:=CN [pI,pI,pI] oB RT.dec R
def bt (a0)(a1)(a2)(hg:gd a0 a1 a2):F a0 a1 a2=ret (md a0 a1 a2):=by
 unfold F md
 try simp only [SS]
 refine au ret (fun c1=>?_) (fun _=>rfl)
 all_goals exact fz
def af:cw 100 aT:=W3 15 F mix aE bt .nil Tryz.func100
end Z47
namespace Z48
inductive Pt where
 | p0 (a:aB) (b:Int)
def pid:Pt->Nat
 | .p0 ..=>4
def cg:Pt->List V
 | .p0 a b=>[.str a,.int .i64 b]
def bZ:Pt->List aW
 | .p0 a b=>[]
def step (J:Pt->aH):Pt->aH
 | .p0 a b=>(cond (decide (b<(a.size:Int))) (m2 b (a.size:Int) (cond (decide ((dZ a (toNat b))<97)) (m2 b (a.size:Int) (cond (decide ((dZ a (toNat b))<48)) (m2 b (a.size:Int) (cond ((dZ a (toNat b)) != 45) aY (J (.p0 a (i64.wrap (b+1)))))) (m2 b (a.size:Int) (cond (decide ((dZ a (toNat b))>57)) (m2 b (a.size:Int) (cond ((dZ a (toNat b)) != 45) aY (J (.p0 a (i64.wrap (b+1)))))) (J (.p0 a (i64.wrap (b+1)))))))) (m2 b (a.size:Int) (cond (decide ((dZ a (toNat b))>122)) (m2 b (a.size:Int) (cond (decide ((dZ a (toNat b))<48)) (m2 b (a.size:Int) (cond ((dZ a (toNat b)) != 45) aY (J (.p0 a (i64.wrap (b+1)))))) (m2 b (a.size:Int) (cond (decide ((dZ a (toNat b))>57)) (m2 b (a.size:Int) (cond ((dZ a (toNat b)) != 45) aY (J (.p0 a (i64.wrap (b+1)))))) (J (.p0 a (i64.wrap (b+1)))))))) (J (.p0 a (i64.wrap (b+1)))))))) ep)
def start (J:Pt->aH)(x0:aB):aH:=(call (Z47.R ((x0.size:Int),1,8)) fun v1=>(cond (!v1) aY (ck (decide ((0:Int)<(x0.size:Int))) (cond ((dZ x0 0)==45) aY (ck (decide ((0:Int)<=(i64.wrap ((x0.size:Int) - 1)))) (ck (decide ((i64.wrap ((x0.size:Int) - 1))<(x0.size:Int))) (cond ((dZ x0 (toNat (i64.wrap ((x0.size:Int) - 1))))==45) aY (J (.p0 x0 0)))))))))
def live:Nat->Live:=fun i=>match i with | 4=>[(0,none),(3,none)] | _=>[]
def md (a0:aB):Bool:=(bif (!(Z47.md (a0.size:Int) 1 8)) then (false:Bool) else (bif ((dZ a0 0)==45) then (false:Bool) else (bif ((dZ a0 (toNat (i64.wrap ((a0.size:Int) - 1))))==45) then (false:Bool) else (eo (S:=Unit) (β:=Bool) (fun (i4:Nat) (s6:Unit)=>(cond (decide ((dZ a0 i4)<97)) (cond (decide ((dZ a0 i4)<48)) (cond ((dZ a0 i4) != 45) (.inr (false:Bool)) (.inl ())) (cond (decide ((dZ a0 i4)>57)) (cond ((dZ a0 i4) != 45) (.inr (false:Bool)) (.inl ())) (.inl ()))) (cond (decide ((dZ a0 i4)>122)) (cond (decide ((dZ a0 i4)<48)) (cond ((dZ a0 i4) != 45) (.inr (false:Bool)) (.inl ())) (cond (decide ((dZ a0 i4)>57)) (cond ((dZ a0 i4) != 45) (.inr (false:Bool)) (.inl ())) (.inl ()))) (.inl ())))) (fun (s6:Unit)=>(true:Bool)) a0.size 0 ()))))
def gd (a0:aB):Prop:=(a0.size<=(2^22))
def R:=RR gd md
def aj {a0}(h:gd a0):R a0=some (md a0):=aN (a:=a0) h
def aT:=CN [pS] oB RT.dec R
def bt (a0)(hg:gd a0):∃n,start (iter step n) a0=ret (md a0):=by
 unfold gd at hg
 have H0:=hg
 unfold start md
 try simp only [SS]
 refine cx (Z47.aj trivial) ?_
 refine gR ret (fun _=>⟨0,rfl⟩) (fun c1=>?_)
 have dc1:=c1
 try simp only [DC] at dc1
 have Dc1:=c1
 try simp [Z47.md] at Dc1
 refine dI (have:=H0;dt) ?_
 refine gR ret (fun _=>⟨0,rfl⟩) (fun c2=>?_)
 have dc2:=c2
 try simp only [DC] at dc2
 refine dI (have:=H0;dt) ?_
 refine dI (have:=H0;dt) ?_
 refine gR ret (fun _=>⟨0,rfl⟩) (fun c3=>?_)
 have dc3:=c3
 try simp only [DC] at dc3
 have Bh5:a0.size<=maxLen:=(by
   have:=H0
   try simp only [maxLen] at *
   omega)
 refine dK (p:=Pt.p0 a0 0) fz ?_
 refine cj (pt:=fun (i4:Nat) (s6:Unit)=>Pt.p0 a0 (i4:Int)) (s:=(():Unit)) (out:=ret) (fun _ _=>True) (fun J i4 s6 h5 hih5=>?_) (fun s6 hih5=>?_) trivial
 ·simp only [step,SS]
  have bb_:=Bh5
  simp only [maxLen] at bb_
  have:=H0
  refine bz.yes (by apply decide_eq_true;omega) ?_
  refine bz.yes aI ?_
  refine bz.yes (aL h5) ?_
  refine bz.bif (fun c7=>?_) (fun c7=>?_)
  ·refine bz.yes aI ?_
   refine bz.yes (aL h5) ?_
   refine bz.bif (fun c8=>?_) (fun c8=>?_)
   ·refine bz.yes aI ?_
    refine bz.yes (aL h5) ?_
    refine bz.bif (fun _=>bz.inr rfl) (fun c9=>?_)
    refine bz.inl trivial ?_
    rw [aG h5 Bh5]
    all_goals exact fz
   ·refine bz.yes aI ?_
    refine bz.yes (aL h5) ?_
    refine bz.bif (fun c10=>?_) (fun c10=>?_)
    ·refine bz.yes aI ?_
     refine bz.yes (aL h5) ?_
     refine bz.bif (fun _=>bz.inr rfl) (fun c11=>?_)
     refine bz.inl trivial ?_
     rw [aG h5 Bh5]
     all_goals exact fz
    ·refine bz.inl trivial ?_
     rw [aG h5 Bh5]
     all_goals exact fz
  ·refine bz.yes aI ?_
   refine bz.yes (aL h5) ?_
   refine bz.bif (fun c12=>?_) (fun c12=>?_)
   ·refine bz.yes aI ?_
    refine bz.yes (aL h5) ?_
    refine bz.bif (fun c13=>?_) (fun c13=>?_)
    ·refine bz.yes aI ?_
     refine bz.yes (aL h5) ?_
     refine bz.bif (fun _=>bz.inr rfl) (fun c14=>?_)
     refine bz.inl trivial ?_
     rw [aG h5 Bh5]
     all_goals exact fz
    ·refine bz.yes aI ?_
     refine bz.yes (aL h5) ?_
     refine bz.bif (fun c15=>?_) (fun c15=>?_)
     ·refine bz.yes aI ?_
      refine bz.yes (aL h5) ?_
      refine bz.bif (fun _=>bz.inr rfl) (fun c16=>?_)
      refine bz.inl trivial ?_
      rw [aG h5 Bh5]
      all_goals exact fz
     ·refine bz.inl trivial ?_
      rw [aG h5 Bh5]
      all_goals exact fz
   ·refine bz.inl trivial ?_
    rw [aG h5 Bh5]
    all_goals exact fz
 ·simp only [step,SS]
  have:=H0
  refine dx (by apply decide_eq_false;omega) ?_
  refine ⟨0,?_⟩
  all_goals exact fz
def af:cw 99 aT:=L1 55 pid cg bZ live step start mix aE bt (.cons Z47.af .nil) Tryz.func99
def tr {a0:aB}(h:md a0=true):1<=a0.size/\a0.size<=8:=by
 unfold md at h
 cases e:Z47.md (a0.size:Int) 1 8
 ·rw [e] at h;cases h
 ·simp [Z47.md] at e;omega
end Z48
namespace Z49
inductive Pt where
 | p0 (a:aC) (b:Int)
def pid:Pt->Nat
 | .p0 ..=>2
def cg:Pt->List V
 | .p0 a b=>[.sl none 9 a,.int .i64 b]
def bZ:Pt->List aW
 | .p0 a b=>[]
def step (J:Pt->aH):Pt->aH
 | .p0 a b=>(cond (decide (b<(a.length:Int))) (m2 b (a.length:Int) (call (Z48.R (pV a (toNat b))) fun v1=>(cond (!v1) aY (J (.p0 a (i64.wrap (b+1))))))) (call (Z47.R ((a.length:Int),1,4)) fun v2=>ret (v2:Bool)))
def start (J:Pt->aH)(x0:aC):aH:=J (.p0 x0 0)
def live:Nat->Live:=fun i=>match i with | 2=>[(0,none),(3,none)] | _=>[]
def md (a0:List aB):Bool:=(dX (S:=Unit) (β:=Bool) (fun (y1:aB) (s3:Unit)=>(cond (!(Z48.md y1)) (.inr (false:Bool)) (.inl ()))) (fun (s3:Unit)=>((Z47.md (a0.length:Int) 1 4):Bool)) a0 ())
def gd (a0:List aB):Prop:=(bL (2^22) (fun y:aB=>y.size<=(2^22)) a0)
def R:=RR gd md
def aj {a0}(h:gd a0):R (a0.map cF)=some (md a0):=aN (a:=a0) h
def aT:=CN [pL 9] oB RT.dec R
def bt (a0)(hg:gd a0):∃n,start (iter step n) (a0.map cF)=ret (md a0):=by
 unfold gd at hg
 have H0:=hg
 unfold start md
 try simp only [SS]
 have Bh2:a0.length<=maxLen:=(by
   have:=(H0).1
   try simp only [maxLen] at *
   omega)
 refine ex_eq (out:=ret) (eG (z:=⟨#[]⟩)) ?_
 refine dK (p:=Pt.p0 (a0.map cF) 0) fz ?_
 refine cj (pt:=fun (i1:Nat) (s3:Unit)=>Pt.p0 (a0.map cF) (i1:Int)) (s:=(():Unit)) (out:=ret) (fun _ _=>True) (fun J i1 s3 h2 hih2=>?_) (fun s3 hih2=>?_) trivial
 ·simp only [step,SS]
  have bb_:=Bh2
  simp only [maxLen] at bb_
  have:=(H0).1
  refine bz.yes (by apply decide_eq_true;omega) ?_
  refine bz.yes aI ?_
  refine bz.yes (aL h2) ?_
  refine cr (Z48.aj (bL.getD (z:=⟨#[]⟩) H0 h2)) ?_
  refine bz.bif (fun _=>bz.inr rfl) (fun c4=>?_)
  refine bz.inl trivial ?_
  rw [aG h2 Bh2]
  all_goals exact fz
 ·simp only [step,SS]
  have:=(H0).1
  refine dx (by apply decide_eq_false;omega) ?_
  refine cx (Z47.aj trivial) ?_
  refine ⟨0,?_⟩
  all_goals exact fz
def af:cw 62 aT:=L1 19 pid cg bZ live step start mix aE bt (.cons Z48.af (.cons Z47.af .nil)) Tryz.func62
def tr {a0:List aB}(h:md a0=true):(1<=a0.length/\a0.length<=4)/\∀x∈a0,x.size<=8:=by
 have e:=lR (p:=fun y=>!(Z48.md y)) (b:=false) (c:=Z47.md (a0.length:Int) 1 4) (xs:=a0) (s:=())
 rw [show md a0=_ from e] at h
 cases ha:a0.any (fun y=>!(Z48.md y))<;>rw [ha] at h
 ·have h2:Z47.md (a0.length:Int) 1 4=true:=h
  simp [Z47.md] at h2
  refine ⟨by omega,fun x hx=>?_⟩
  rw [List.any_eq_false] at ha
  have:=ha x hx
  exact (Z48.tr (by simpa using this)).2
 ·cases h
def tl {x:aB}{xs:List aB}(h:md (x::xs)=true)(hx:¬xs.length=0):md xs=true:=by
 have key:∀a:List aB,md a=bif a.any (fun y=>!(Z48.md y)) then false else Z47.md (a.length:Int) 1 4:=fun a=>lR (p:=fun y=>!(Z48.md y)) (b:=false) (c:=Z47.md (a.length:Int) 1 4) (xs:=a) (s:=())
 have t:=tr h
 simp only [List.length_cons] at t
 rw [key] at h ⊢
 rw [List.any_cons] at h
 cases h1:xs.any (fun y=>!(Z48.md y)) with
 | true=>rw [h1,Bool.or_true] at h;cases h
 | false=>simp [Z47.md];omega
end Z49
namespace Z50
def F (x0:aC):aH:=(ck (eT ((x0.length:Int)*16)) (ret (x0:aC)))
def md (a0:List aB):List aB:=a0
def gd (a0:List aB):Prop:=(bL (2^21) (fun y:aB=>y.size<=(2^21)) a0)
def R:=RR gd md
def aj {a0}(h:gd a0):R (a0.map cF)=some (a0.map cF):=aN (a:=a0) h
def aT:=CN [pL 9] (oL 9) RT.dec R
def bt (a0)(hg:gd a0):F (a0.map cF)=ret ((md a0).map cF):=by
 unfold gd at hg
 have H0:=hg
 unfold F md
 try simp only [SS]
 refine ak (have:=(H0).1;lm) ?_
 all_goals exact fz
def af:cw 63 aT:=W1 6 F mix aE bt .nil Tryz.func63
end Z50
namespace Z51
inductive Pt where
 | p0 (a:Int) (b:bD)
def pid:Pt->Nat
 | .p0 ..=>2
def cg:Pt->List V
 | .p0 a b=>[.cQ 0 0,.int .i64 a]
def bZ:Pt->List aW
 | .p0 a b=>[.box [.sl none 3 b.aX,.int .i64 b.cC]]
def step (J:Pt->aH):Pt->aH
 | .p0 a b=>(cond (decide (a<(b.aX.length:Int))) (m2 a (b.aX.length:Int) (call (Z47.R ((je b.aX (toNat a)),1,99)) fun v1=>(cond (!v1) aY (cond (decide (a>0)) (ck (decide ((0:Int)<=(i64.wrap (a - 1)))) (ck (decide ((i64.wrap (a - 1))<(b.aX.length:Int))) (m2 a (b.aX.length:Int) (cond (decide ((je b.aX (toNat (i64.wrap (a - 1))))>=(je b.aX (toNat a)))) aY (J (.p0 (i64.wrap (a+1)) b)))))) (J (.p0 (i64.wrap (a+1)) b)))))) (call (Z47.R ((b.aX.length:Int),1,4)) fun v2=>(cond v2 (call (Z47.R (b.cC,1,(b.aX.length:Int))) fun v3=>ret (v3:Bool)) aY)))
def start (J:Pt->aH)(x0:bD):aH:=J (.p0 0 x0)
def live:Nat->Live:=fun i=>match i with | 2=>[(1,none),(3,none)] | _=>[]
def md (a0:aO):Bool:=(dQ (S:=Unit) (β:=Bool) (fun (i1:Nat) (y1:Int) (s3:Unit)=>(cond (!(Z47.md y1 1 99)) (.inr (false:Bool)) (cond (decide ((i1:Int)>0)) (cond (decide ((a0.aX.getD (toNat (i64.wrap ((i1:Int) - 1))) 0)>=y1)) (.inr (false:Bool)) (.inl ())) (.inl ())))) (fun (s3:Unit)=>(cond (Z47.md (a0.aX.length:Int) 1 4) ((Z47.md a0.cC 1 (a0.aX.length:Int)):Bool) (false:Bool))) 0 a0.aX ())
def gd (a0:aO):Prop:=(aO.Sm (2^21) a0)
def R:=RR gd md
def aj {a0}(h:gd a0):R (aO.r a0)=some (md a0):=aN (a:=a0) h
def aT:=CN [.agg iU] oB RT.dec R
def bt (a0)(hg:gd a0):∃n,start (iter step n) (aO.r a0)=ret (md a0):=by
 unfold gd at hg
 have H0:=hg
 unfold start md
 try simp only [SS]
 have Bh2:a0.aX.length<=maxLen:=(by
   have:=(H0).1
   try simp only [maxLen] at *
   omega)
 refine ex_eq (out:=ret) (cR (z:=0)) ?_
 refine dK (p:=Pt.p0 0 (aO.r a0)) fz ?_
 refine cj (pt:=fun (i1:Nat) (s3:Unit)=>Pt.p0 (i1:Int) (aO.r a0)) (s:=(():Unit)) (out:=ret) (fun _ _=>True) (fun J i1 s3 h2 hih2=>?_) (fun s3 hih2=>?_) trivial
 ·simp only [step,SS]
  have bb_:=Bh2
  simp only [maxLen] at bb_
  have:=(H0).1
  refine bz.yes (by apply decide_eq_true;omega) ?_
  refine bz.yes aI ?_
  refine bz.yes (aL h2) ?_
  refine cr (Z47.aj trivial) ?_
  refine bz.bif (fun _=>bz.inr rfl) (fun c4=>?_)
  have dc4:=c4
  try simp only [DC] at dc4
  have Dc4:=c4
  try simp [Z47.md] at Dc4
  refine bz.bif (fun c5=>?_) (fun c5=>?_)
  ·have dc5:=c5
   try simp only [DC] at dc5
   refine bz.yes dt ?_
   refine bz.yes (have:=(H0).1;dt) ?_
   refine bz.yes aI ?_
   refine bz.yes (aL h2) ?_
   refine bz.bif (fun _=>bz.inr rfl) (fun c6=>?_)
   refine bz.inl trivial ?_
   rw [aG h2 Bh2]
   all_goals exact fz
  ·refine bz.inl trivial ?_
   rw [aG h2 Bh2]
   all_goals exact fz
 ·simp only [step,SS]
  have:=(H0).1
  refine dx (by apply decide_eq_false;omega) ?_
  refine cx (Z47.aj trivial) ?_
  refine gR ret (fun c7=>?_) (fun _=>⟨0,rfl⟩)
  refine cx (Z47.aj trivial) ?_
  refine ⟨0,?_⟩
  all_goals exact fz
def af:cw 255 aT:=L1 48 pid cg bZ live step start mix aE bt (.cons Z47.af .nil) Tryz.func255
def tr {a0:aO}(h:md a0=true):1<=a0.aX.length/\a0.aX.length<=4:=by
 refine Classical.byContradiction fun hc=>?_
 have e1:Z47.md (a0.aX.length:Int) 1 4=false:=by simp [Z47.md];omega
 unfold md at h
 rw [e1] at h
 have e2:∀s:Unit,(cond false (Z47.md a0.cC 1 (a0.aX.length:Int)) false)=false:=fun _=>rfl
 have h3:=lz (c:=false) (f:=fun (i1:Nat) (y1:Int) (s3:Unit)=>(cond (!(Z47.md y1 1 99)) (.inr (false:Bool)) (cond (decide ((i1:Int)>0)) (cond (decide ((a0.aX.getD (toNat (i64.wrap ((i1:Int) - 1))) 0)>=y1)) (.inr (false:Bool)) (.inl ())) (.inl ())))) (by
  intro i x s b h
  revert h
  simp only [Bool.cond_eq_ite]
  repeat' split
  all_goals (intro h;first | (cases h;rfl) | cases h)) a0.aX 0 ()
 simp only [bq] at h
 rw [h3] at h
 cases h
end Z51
namespace Z52
def F (x0:bD):aH:=(cond (x0.cC==0) (ret (((x0.aX.length:Int)==0):Bool)) aY)
def md (a0:aO):Bool:=(cond (a0.cC==0) (((a0.aX.length:Int)==0):Bool) (false:Bool))
def gd (a0:aO):Prop:=True
def R:=RR gd md
def aj {a0}(h:gd a0):R (aO.r a0)=some (md a0):=aN (a:=a0) h
def aT:=CN [.agg iU] oB RT.dec R
def bt (a0)(hg:gd a0):F (aO.r a0)=ret (md a0):=by
 unfold F md
 try simp only [SS]
 refine au ret (fun c1=>?_) (fun _=>rfl)
 all_goals exact fz
def af:cw 256 aT:=W1 12 F mix aE bt .nil Tryz.func256
end Z52
namespace Z53
def F (x0:bY):aH:=(call (Z47.R (x0.bC,0,2147483646)) fun v1=>(cond (!v1) aY (call (Z47.R (x0.cW,0,2147483646)) fun v2=>(cond (!v2) aY (call (Z47.R (x0.dy,0,2147483646)) fun v3=>(cond (!v3) aY (call (Z47.R (x0.cI,0,200)) fun v4=>(cond (!v4) aY (call (Z47.R (x0.bK,1,3)) fun v5=>(cond (!v5) aY (call (Z47.R (x0.cG,0,100000)) fun v6=>(cond (!v6) aY (call (Z47.R (x0.cz,x0.cG,100000)) fun v7=>(cond (!v7) aY (cond (decide ((i64.wrap (x0.cz - x0.cG))>200)) aY (call (Z47.R (x0.cq,0,12)) fun v8=>(cond (!v8) aY (call (Z51.R x0.bQ) fun v9=>(cond (!v9) aY (call (Z52.R x0.bB) fun v10=>(cond v10 (cond (x0.cY != 0) aY (call (Z51.R x0.bw) fun v11=>(cond v11 ep (call (Z52.R x0.bw) fun v12=>(cond v12 (ret ((!x0.bE):Bool)) aY))))) (call (Z51.R x0.bB) fun v13=>(cond (!v13) aY (call (Z47.R (x0.cY,1,500)) fun v14=>(cond (!v14) aY (call (Z51.R x0.bw) fun v15=>(cond v15 ep (call (Z52.R x0.bw) fun v16=>(cond v16 (ret ((!x0.bE):Bool)) aY)))))))))))))))))))))))))))))
def md (a0:aF):Bool:=(cond (!(Z47.md a0.bC 0 2147483646)) (false:Bool) (cond (!(Z47.md a0.cW 0 2147483646)) (false:Bool) (cond (!(Z47.md a0.dy 0 2147483646)) (false:Bool) (cond (!(Z47.md a0.cI 0 200)) (false:Bool) (cond (!(Z47.md a0.bK 1 3)) (false:Bool) (cond (!(Z47.md a0.cG 0 100000)) (false:Bool) (cond (!(Z47.md a0.cz a0.cG 100000)) (false:Bool) (cond (decide ((i64.wrap (a0.cz - a0.cG))>200)) (false:Bool) (cond (!(Z47.md a0.cq 0 12)) (false:Bool) (cond (!(Z51.md a0.bQ)) (false:Bool) (cond (Z52.md a0.bB) (cond (a0.cY != 0) (false:Bool) (cond (Z51.md a0.bw) (true:Bool) (cond (Z52.md a0.bw) ((!a0.bE):Bool) (false:Bool)))) (cond (!(Z51.md a0.bB)) (false:Bool) (cond (!(Z47.md a0.cY 1 500)) (false:Bool) (cond (Z51.md a0.bw) (true:Bool) (cond (Z52.md a0.bw) ((!a0.bE):Bool) (false:Bool))))))))))))))))
def gd (a0:aF):Prop:=(aF.Sm (2^21) a0)
def R:=RR gd md
def aj {a0}(h:gd a0):R (aF.r a0)=some (md a0):=aN (a:=a0) h
def aT:=CN [.agg fW] oB RT.dec R
def bt (a0)(hg:gd a0):F (aF.r a0)=ret (md a0):=by
 unfold gd at hg
 have H0:=hg
 unfold F md
 try simp only [SS]
 refine ct (Z47.aj trivial) ?_
 refine au ret (fun _=>rfl) (fun c1=>?_)
 refine ct (Z47.aj trivial) ?_
 refine au ret (fun _=>rfl) (fun c2=>?_)
 refine ct (Z47.aj trivial) ?_
 refine au ret (fun _=>rfl) (fun c3=>?_)
 refine ct (Z47.aj trivial) ?_
 refine au ret (fun _=>rfl) (fun c4=>?_)
 refine ct (Z47.aj trivial) ?_
 refine au ret (fun _=>rfl) (fun c5=>?_)
 refine ct (Z47.aj trivial) ?_
 refine au ret (fun _=>rfl) (fun c6=>?_)
 refine ct (Z47.aj trivial) ?_
 refine au ret (fun _=>rfl) (fun c7=>?_)
 refine au ret (fun _=>rfl) (fun c8=>?_)
 refine ct (Z47.aj trivial) ?_
 refine au ret (fun _=>rfl) (fun c9=>?_)
 refine ct (Z51.aj H0.1) ?_
 refine au ret (fun _=>rfl) (fun c10=>?_)
 refine ct (Z52.aj trivial) ?_
 refine au ret (fun c11=>?_) (fun c11=>?_)
 ·refine au ret (fun _=>rfl) (fun c12=>?_)
  refine ct (Z51.aj H0.2.2) ?_
  refine au ret (fun _=>rfl) (fun c13=>?_)
  refine ct (Z52.aj trivial) ?_
  refine au ret (fun c14=>?_) (fun _=>rfl)
  all_goals exact fz
 ·refine ct (Z51.aj H0.2.1) ?_
  refine au ret (fun _=>rfl) (fun c15=>?_)
  refine ct (Z47.aj trivial) ?_
  refine au ret (fun _=>rfl) (fun c16=>?_)
  refine ct (Z51.aj H0.2.2) ?_
  refine au ret (fun _=>rfl) (fun c17=>?_)
  refine ct (Z52.aj trivial) ?_
  refine au ret (fun c18=>?_) (fun _=>rfl)
  all_goals exact fz
def af:cw 226 aT:=W1 92 F mix aE bt (.cons Z47.af (.cons Z51.af (.cons Z52.af .nil))) Tryz.func226
def tr {a0:aF}(h:md a0=true):(1<=a0.bK/\a0.bK<=3)/\0<=a0.cG/\a0.cG<=a0.cz/\a0.cz<=100000/\0<=a0.cq/\a0.cq<=12:=by
 have key:∀x y z:Int,Z47.md x y z=true->y<=x/\x<=z:=fun x y z h=>by simpa [Z47.md] using h
 unfold md at h
 simp only [A7,Bool.not_not,Bool.and_eq_true] at h
 obtain ⟨_,_,_,_,h5,h6,h7,_,h8,_⟩:=h
 have:=key _ _ _ h5
 have:=key _ _ _ h6
 have:=key _ _ _ h7
 have:=key _ _ _ h8
 omega
end Z53
namespace Z54
def F (x0:bD):aH:=(ck (eT (((2:Int)+(x0.aX.length:Int))*8)) (ret (([[L.int x0.cC],[L.int (x0.aX.length:Int)]]++x0.aX):aC)))
def md (a0:aO):List Int:=([a0.cC,(a0.aX.length:Int)]++a0.aX)
def gd (a0:aO):Prop:=(aO.Sm (2^21) a0)
def R:=RR gd md
def aj {a0}(h:gd a0):R (aO.r a0)=some ((md a0).map bh):=aN (a:=a0) h
def aT:=CN [.agg iU] (oL 3) RT.dec R
def bt (a0)(hg:gd a0):F (aO.r a0)=ret ((md a0).map bh):=by
 unfold gd at hg
 have H0:=hg
 unfold F md
 try simp only [SS]
 refine ak (have:=(H0).1;lm) ?_
 all_goals exact fz
def af:cw 230 aT:=W1 12 F mix aE bt .nil Tryz.func230
def len (a0:aO):(md a0).length=2+a0.aX.length:=by simp [md];omega
end Z54
namespace Z55
def F (x0 x1:Int):aH:=(call (Z47.R (x1,1,1000000000000)) fun v1=>(cond (!v1) (ret (0:Int)) (cond (decide (x1=0)) none (cond (decide (x1=0)) none (ret ((Int.tmod (i64.wrap ((Int.tmod x0 x1)+x1)) x1):Int))))))
def md (a0 a1:Int):Int:=(cond (!(Z47.md a1 1 1000000000000)) (0:Int) ((Int.tmod (i64.wrap ((Int.tmod a0 a1)+a1)) a1):Int))
def gd (a0 a1:Int):Prop:=True
def R:=RR (p2 gd) (u2 md)
def aj {a0 a1}(h:gd a0 a1):R (a0,a1)=some (md a0 a1):=aN (a:=(a0,a1)) h
def aT:=CN [pI,pI] oI RT.dec R
def bt (a0)(a1)(hg:gd a0 a1):F a0 a1=ret (md a0 a1):=by
 unfold F md
 try simp only [SS]
 refine ct (Z47.aj trivial) ?_
 refine au ret (fun _=>rfl) (fun c1=>?_)
 have dc1:=c1
 try simp only [DC] at dc1
 have Dc1:=c1
 try simp [Z47.md] at Dc1
 refine cN df ?_
 refine cN df ?_
 all_goals exact fz
def af:cw 262 aT:=W2 15 F mix aE bt (.cons Z47.af .nil) Tryz.func262
end Z55
namespace Z56
inductive Pt where
 | p0 (a:aC) (b c:Int)
def pid:Pt->Nat
 | .p0 ..=>3
def cg:Pt->List V
 | .p0 a b c=>[.sl none 3 a,.int .i64 b,.int .i64 c]
def bZ:Pt->List aW
 | .p0 a b c=>[]
def step (J:Pt->aH):Pt->aH
 | .p0 a b c=>(cond (decide (c<(a.length:Int))) (m2 c (a.length:Int) (call (Z55.R ((je a (toNat c)),2147483647)) fun v1=>J (.p0 a (Int.tmod (i64.wrap ((i64.wrap ((i64.wrap (b*1000003))+v1))+13)) 2147483647) (i64.wrap (c+1))))) (ret (b:Int)))
def start (J:Pt->aH)(x0:aC):aH:=J (.p0 x0 11 0)
def live:Nat->Live:=fun i=>match i with | 3=>[(0,none),(3,none),(4,none)] | _=>[]
def md (a0:List Int):Int:=(dX (S:=Int) (β:=Int) (fun (y1:Int) (s3:Int)=>(.inl (Int.tmod (i64.wrap ((i64.wrap ((i64.wrap (s3*1000003))+(Z55.md y1 2147483647)))+13)) 2147483647))) (fun (s3:Int)=>(s3:Int)) a0 11)
def gd (a0:List Int):Prop:=(bL (2^43) (fun y:Int=>True) a0)
def R:=RR gd md
def aj {a0}(h:gd a0):R (a0.map bh)=some (md a0):=aN (a:=a0) h
def aT:=CN [pL 3] oI RT.dec R
def bt (a0)(hg:gd a0):∃n,start (iter step n) (a0.map bh)=ret (md a0):=by
 unfold gd at hg
 have H0:=hg
 unfold start md
 try simp only [SS]
 have Bh2:a0.length<=maxLen:=(by
   have:=(H0).1
   try simp only [maxLen] at *
   omega)
 refine ex_eq (out:=ret) (eG (z:=0)) ?_
 refine dK (p:=Pt.p0 (a0.map bh) 11 0) fz ?_
 refine cj (pt:=fun (i1:Nat) (s3:Int)=>Pt.p0 (a0.map bh) s3 (i1:Int)) (s:=(11:Int)) (out:=ret) (fun _ _=>True) (fun J i1 s3 h2 hih2=>?_) (fun s3 hih2=>?_) trivial
 ·simp only [step,SS]
  have bb_:=Bh2
  simp only [maxLen] at bb_
  have:=(H0).1
  refine bz.yes (by apply decide_eq_true;omega) ?_
  refine bz.yes aI ?_
  refine bz.yes (aL h2) ?_
  refine cr (Z55.aj trivial) ?_
  refine bz.inl trivial ?_
  rw [aG h2 Bh2]
  all_goals exact fz
 ·simp only [step,SS]
  have:=(H0).1
  refine dx (by apply decide_eq_false;omega) ?_
  refine ⟨0,?_⟩
  all_goals exact fz
def af:cw 232 aT:=L1 22 pid cg bZ live step start mix aE bt (.cons Z55.af .nil) Tryz.func232
end Z56
namespace Z57
def F (x0:bD)(x1:Int):aH:=(call (Z54.R x0) fun v1=>(ck (eT (((2:Int)+(v1.length:Int))*8)) (call (Z56.R ([[L.int 239],[L.int x1]]++v1)) fun v2=>ret (v2:Int))))
def md (a0:aO)(a1:Int):Int:=((Z56.md ([239,a1]++(Z54.md a0))):Int)
def gd (a0:aO)(a1:Int):Prop:=(aO.Sm (2^21) a0)
def R:=RR (p2 gd) (u2 md)
def aj {a0 a1}(h:gd a0 a1):R ((aO.r a0),a1)=some (md a0 a1):=aN (a:=(a0,a1)) h
def aT:=CN [.agg iU,pI] oI RT.dec R
def bt (a0)(a1)(hg:gd a0 a1):F (aO.r a0) a1=ret (md a0 a1):=by
 unfold gd at hg
 have H0:=hg
 unfold F md
 try simp only [SS]
 refine ct (Z54.aj H0) ?_
 try simp only [SS]
 refine ak (have:=Z54.len a0;have:=(H0).1;lm) ?_
 refine aZ (Z56.md ([239,a1]++(Z54.md a0))) (rq (Z56.aj (a0:=([239,a1]++(Z54.md a0))) ⟨(have:=Z54.len a0;have:=(H0).1;om),fun _ _=>trivial⟩)) ?_
 all_goals exact fz
def af:cw 227 aT:=W2 11 F mix aE bt (.cons Z54.af (.cons Z56.af .nil)) Tryz.func227
end Z57
namespace Z58
def F (x0:bY):aH:=(call (Z54.R x0.bQ) fun v1=>(ck (eT (((8:Int)+(v1.length:Int))*8)) (call (Z54.R x0.bB) fun v2=>(ck (eT (((([[L.int x0.bC],[L.int x0.cI],[L.int x0.bK],[L.int x0.cG],[L.int x0.cz],[L.int x0.cq],[L.int x0.cW],[L.int x0.dy]]++v1).length:Int)+(v2.length:Int))*8)) (ck (eT ((((([[L.int x0.bC],[L.int x0.cI],[L.int x0.bK],[L.int x0.cG],[L.int x0.cz],[L.int x0.cq],[L.int x0.cW],[L.int x0.dy]]++v1)++v2).length:Int)+1)*8)) (call (Z54.R x0.bw) fun v3=>(ck (eT (((((([[L.int x0.bC],[L.int x0.cI],[L.int x0.bK],[L.int x0.cG],[L.int x0.cz],[L.int x0.cq],[L.int x0.cW],[L.int x0.dy]]++v1)++v2)++[[L.int x0.cY]]).length:Int)+(v3.length:Int))*8)) (cond x0.bE (ck (eT ((((((([[L.int x0.bC],[L.int x0.cI],[L.int x0.bK],[L.int x0.cG],[L.int x0.cz],[L.int x0.cq],[L.int x0.cW],[L.int x0.dy]]++v1)++v2)++[[L.int x0.cY]])++v3).length:Int)+1)*8)) (ret (((((([[L.int x0.bC],[L.int x0.cI],[L.int x0.bK],[L.int x0.cG],[L.int x0.cz],[L.int x0.cq],[L.int x0.cW],[L.int x0.dy]]++v1)++v2)++[[L.int x0.cY]])++v3)++[[L.int 1]]):aC))) (ck (eT ((((((([[L.int x0.bC],[L.int x0.cI],[L.int x0.bK],[L.int x0.cG],[L.int x0.cz],[L.int x0.cq],[L.int x0.cW],[L.int x0.dy]]++v1)++v2)++[[L.int x0.cY]])++v3).length:Int)+1)*8)) (ret (((((([[L.int x0.bC],[L.int x0.cI],[L.int x0.bK],[L.int x0.cG],[L.int x0.cz],[L.int x0.cq],[L.int x0.cW],[L.int x0.dy]]++v1)++v2)++[[L.int x0.cY]])++v3)++[[L.int 0]]):aC)))))))))))
def md (a0:aF):List Int:=(cond a0.bE ((((([a0.bC,a0.cI,a0.bK,a0.cG,a0.cz,a0.cq,a0.cW,a0.dy]++(Z54.md a0.bQ))++(Z54.md a0.bB))++[a0.cY])++(Z54.md a0.bw))++[1]) ((((([a0.bC,a0.cI,a0.bK,a0.cG,a0.cz,a0.cq,a0.cW,a0.dy]++(Z54.md a0.bQ))++(Z54.md a0.bB))++[a0.cY])++(Z54.md a0.bw))++[0]))
def gd (a0:aF):Prop:=(aF.Sm (2^21) a0)
def R:=RR gd md
def aj {a0}(h:gd a0):R (aF.r a0)=some ((md a0).map bh):=aN (a:=a0) h
def aT:=CN [.agg fW] (oL 3) RT.dec R
def bt (a0)(hg:gd a0):F (aF.r a0)=ret ((md a0).map bh):=by
 unfold gd at hg
 have H0:=hg
 unfold F md
 try simp only [SS]
 refine ct (Z54.aj H0.1) ?_
 try simp only [SS]
 refine ak (have:=Z54.len a0.bQ;have:=(H0.1).1;lm) ?_
 refine ct (Z54.aj H0.2.1) ?_
 try simp only [SS]
 refine ak (have:=Z54.len a0.bQ;have:=(H0.1).1;have:=Z54.len a0.bB;have:=(H0.2.1).1;lm) ?_
 refine ak (have:=Z54.len a0.bQ;have:=(H0.1).1;have:=Z54.len a0.bB;have:=(H0.2.1).1;lm) ?_
 refine ct (Z54.aj H0.2.2) ?_
 try simp only [SS]
 refine ak (have:=Z54.len a0.bQ;have:=(H0.1).1;have:=Z54.len a0.bB;have:=(H0.2.1).1;have:=Z54.len a0.bw;have:=(H0.2.2).1;lm) ?_
 refine au (fun b:List Int=>ret ((b.map bh):aC)) (fun c1=>?_) (fun c1=>?_)
 ·refine ak (have:=Z54.len a0.bQ;have:=(H0.1).1;have:=Z54.len a0.bB;have:=(H0.2.1).1;have:=Z54.len a0.bw;have:=(H0.2.2).1;lm) ?_
  all_goals exact fz
 ·refine ak (have:=Z54.len a0.bQ;have:=(H0.1).1;have:=Z54.len a0.bB;have:=(H0.2.1).1;have:=Z54.len a0.bw;have:=(H0.2.2).1;lm) ?_
  all_goals exact fz
def af:cw 190 aT:=W1 49 F mix aE bt (.cons Z54.af .nil) Tryz.func190
def len (a0:aF):(md a0).length=16+a0.bQ.aX.length+a0.bB.aX.length+a0.bw.aX.length:=by unfold md;cases a0.bE<;>simp [Z54.md]<;>omega
def Ax {k l:aO}{x y:List Int}(h:Z54.md k++x=Z54.md l++y):k=l/\x=y:=by
 obtain ⟨kl,kn⟩:=k
 obtain ⟨ll,ln⟩:=l
 simp only [Z54.md,List.cons_append,List.nil_append,List.cons.injEq] at h
 obtain ⟨h1,h2,h3⟩:=h
 obtain ⟨h4,h5⟩:=List.append_inj h3 (by omega)
 exact ⟨by rw [h1,h4],h5⟩
def tu (a:aF):md a=a.bC::a.cI::a.bK::a.cG::a.cz::a.cq::a.cW::a.dy::(Z54.md a.bQ++(Z54.md a.bB++(a.cY::(Z54.md a.bw++[bif a.bE then 1 else 0])))):=by
 unfold md
 cases a.bE<;>simp only [bf,bq,List.append_assoc,List.cons_append,List.nil_append]
def inj {a b:aF}(h:md a=md b):a=b:=by
 rw [tu,tu] at h
 simp only [List.cons.injEq] at h
 obtain ⟨g1,g2,g3,g4,g5,g6,g7,g8,g9⟩:=h
 obtain ⟨k1,g9⟩:=Ax g9
 obtain ⟨k2,g9⟩:=Ax g9
 simp only [List.cons.injEq] at g9
 obtain ⟨k3,g9⟩:=g9
 obtain ⟨k4,g9⟩:=Ax g9
 have k5:a.bE=b.bE:=by
  simp only [List.cons.injEq,and_true] at g9
  revert g9
  cases a.bE<;>cases b.bE<;>simp
 cases a;cases b
 simp only [aF.mk.injEq]
 exact ⟨g1,g2,g3,g4,g5,g6,g7,g8,k1,k2,k3,k4,k5⟩
end Z58
namespace Z59
def F (x0:Int)(x1:aC):aH:=(ck (eT (((1:Int)+(x1.length:Int))*8)) (ck (eT (((([[L.int x0]]++x1).length:Int)+1)*8)) (call (Z56.R (([[L.int x0]]++x1)++[[L.int x0]])) fun v1=>ret (v1:Int))))
def md (a0:Int)(a1:List Int):Int:=((Z56.md (([a0]++a1)++[a0])):Int)
def gd (a0:Int)(a1:List Int):Prop:=(bL (2^40) (fun y:Int=>True) a1)
def R:=RR (p2 gd) (u2 md)
def aj {a0 a1}(h:gd a0 a1):R (a0,(a1.map bh))=some (md a0 a1):=aN (a:=(a0,a1)) h
def aT:=CN [pI,pL 3] oI RT.dec R
def bt (a0)(a1)(hg:gd a0 a1):F a0 (a1.map bh)=ret (md a0 a1):=by
 unfold gd at hg
 have H1:=hg
 unfold F md
 try simp only [SS]
 refine ak (have:=(H1).1;lm) ?_
 refine ak (have:=(H1).1;lm) ?_
 refine aZ (Z56.md (([a0]++a1)++[a0])) (rq (Z56.aj (a0:=(([a0]++a1)++[a0])) ⟨(have:=(H1).1;om),fun _ _=>trivial⟩)) ?_
 all_goals exact fz
def af:cw 315 aT:=W2 13 F mix aE bt (.cons Z56.af .nil) Tryz.func315
end Z59
namespace Z60
def F (x0:Int)(x1:aC):aH:=(ck (eT (((1:Int)+(x1.length:Int))*8)) (call (Z59.R (x0,([[L.int 223]]++x1))) fun v1=>ret (v1:Int)))
def md (a0:Int)(a1:List Int):Int:=((Z59.md a0 ([223]++a1)):Int)
def gd (a0:Int)(a1:List Int):Prop:=(bL (2^39) (fun y:Int=>True) a1)
def R:=RR (p2 gd) (u2 md)
def aj {a0 a1}(h:gd a0 a1):R (a0,(a1.map bh))=some (md a0 a1):=aN (a:=(a0,a1)) h
def aT:=CN [pI,pL 3] oI RT.dec R
def bt (a0)(a1)(hg:gd a0 a1):F a0 (a1.map bh)=ret (md a0 a1):=by
 unfold gd at hg
 have H1:=hg
 unfold F md
 try simp only [SS]
 refine ak (have:=(H1).1;lm) ?_
 refine aZ (Z59.md a0 ([223]++a1)) (rq (Z59.aj (a0:=a0) (a1:=([223]++a1)) ⟨(have:=(H1).1;om),fun _ _=>trivial⟩)) ?_
 all_goals exact fz
def af:cw 306 aT:=W2 10 F mix aE bt (.cons Z59.af .nil) Tryz.func306
end Z60
namespace Z61
def F (x0:bn)(x1:aC):aH:=(call (Z47.R (x0.gJ,1,99)) fun v1=>(cond v1 (call (Z60.R (x0.gJ,x1)) fun v2=>ret ((x0.jq==v2):Bool)) aY))
def md (a0:bn)(a1:List Int):Bool:=(cond (Z47.md a0.gJ 1 99) ((a0.jq==(Z60.md a0.gJ a1)):Bool) (false:Bool))
def gd (a0:bn)(a1:List Int):Prop:=(bL (2^38) (fun y:Int=>True) a1)
def R:=RR (p2 gd) (u2 md)
def aj {a0 a1}(h:gd a0 a1):R (a0,(a1.map bh))=some (md a0 a1):=aN (a:=(a0,a1)) h
def aT:=CN [.agg yN,pL 3] oB RT.dec R
def bt (a0)(a1)(hg:gd a0 a1):F a0 (a1.map bh)=ret (md a0 a1):=by
 unfold gd at hg
 have H1:=hg
 unfold F md
 try simp only [SS]
 refine ct (Z47.aj trivial) ?_
 refine au ret (fun c1=>?_) (fun _=>rfl)
 refine ct (Z60.aj (H1.mono (by decide) (fun x hx=>trivial))) ?_
 all_goals exact fz
def af:cw 283 aT:=W2 17 F mix aE bt (.cons Z47.af (.cons Z60.af .nil)) Tryz.func283
end Z61
namespace Z62
inductive Pt where
 | p0 (a b:aC) (c d:Int) (e:bD)
 | p1 (a b:aC) (c d e:Int) (f:bD)
def pid:Pt->Nat
 | .p0 ..=>3
 | .p1 ..=>6
def cg:Pt->List V
 | .p0 a b c d e=>[.sl none 3 a,.sl none 190 b,.cQ 0 0,.int .i64 c,.int .i64 d]
 | .p1 a b c d e f=>[.sl none 3 a,.sl none 190 b,.cQ 0 0,.int .i64 c,.int .i64 d,.int .i64 e]
def bZ:Pt->List aW
 | .p0 a b c d e=>[.box [.sl none 3 e.aX,.int .i64 e.cC]]
 | .p1 a b c d e f=>[.box [.sl none 3 f.aX,.int .i64 f.cC]]
def step (J:Pt->aH):Pt->aH
 | .p0 a b c d e=>(cond (decide (d<(e.aX.length:Int))) (J (.p1 a b c d 0 e)) (ret (c:Int)))
 | .p1 a b c d e f=>(cond (decide (e<(b.length:Int))) (m2 e (b.length:Int) (m2 d (f.aX.length:Int) (cond ((bn.at b (toNat e)).gJ==(je f.aX (toNat d))) (m2 e (b.length:Int) (call (Z61.R ((bn.at b (toNat e)),a)) fun v1=>(cond v1 (J (.p0 a b (i64.wrap (c+1)) (i64.wrap (d+1)) f)) (J (.p1 a b c d (i64.wrap (e+1)) f))))) (J (.p1 a b c d (i64.wrap (e+1)) f))))) (J (.p0 a b c (i64.wrap (d+1)) f)))
def start (J:Pt->aH)(x0:bD)(x1 x2:aC):aH:=J (.p0 x1 x2 0 0 x0)
def live:Nat->Live:=fun i=>match i with | 3=>[(1,none),(2,none),(3,none),(7,none),(8,none)] | 6=>[(1,none),(2,none),(3,none),(7,none),(8,none),(9,none)] | _=>[]
def md (a0:aO)(a1:List Int)(a2:List bn):Int:=(dX (S:=Int) (β:=Int) (fun (y1:Int) (s3:Int)=>(dX (S:=Unit) (β:=(Int⊕Int)) (fun (y5:bn) (s7:Unit)=>(cond (y5.gJ==y1) (cond (Z61.md y5 a1) (.inr (.inl (i64.wrap (s3+1)))) (.inl ())) (.inl ()))) (fun (s7:Unit)=>(.inl s3)) a2 ())) (fun (s3:Int)=>(s3:Int)) a0.aX 0)
def gd (a0:aO)(a1:List Int)(a2:List bn):Prop:=(aO.Sm (2^21) a0)/\(bL (2^38) (fun y:Int=>True) a1)/\(bL (2^21) (fun y:bn=>bn.Sm (2^21) y) a2)
def R:=RR (p3 gd) (u3 md)
def aj {a0 a1 a2}(h:gd a0 a1 a2):R ((aO.r a0),(a1.map bh),(a2.map bn.row))=some (md a0 a1 a2):=aN (a:=(a0,a1,a2)) h
def aT:=CN [.agg iU,pL 3,pL 190] oI RT.dec R
def bt (a0)(a1)(a2)(hg:gd a0 a1 a2):∃n,start (iter step n) (aO.r a0) (a1.map bh) (a2.map bn.row)=ret (md a0 a1 a2):=by
 obtain ⟨H0,H1,H2⟩:=hg
 unfold start md
 try simp only [SS]
 have Bh2:a0.aX.length<=maxLen:=(by
   have:=(H0).1
   try simp only [maxLen] at *
   omega)
 refine ex_eq (out:=ret) (eG (z:=0)) ?_
 refine dK (p:=Pt.p0 (a1.map bh) (a2.map bn.row) 0 0 (aO.r a0)) fz ?_
 refine uY (pt:=fun (i1:Nat) (s3:Int)=>Pt.p0 (a1.map bh) (a2.map bn.row) s3 (i1:Int) (aO.r a0)) (s:=(0:Int)) (out:=ret) (fun _ _=>True) (fun i1 s3 h2 hih2 K4 hK4 rK4=>?_) (fun s3 hih2=>?_) trivial
 ·simp only [step,SS]
  have bb_:=Bh2
  simp only [maxLen] at bb_
  have:=(H0).1
  refine dI (by apply decide_eq_true;omega) ?_
  have Bh6:a2.length<=maxLen:=(by
    have:=(H2).1
    try simp only [maxLen] at *
    omega)
  refine ex_eq (out:=K4) (eG (z:=bn.zero)) ?_
  refine dK (p:=Pt.p1 (a1.map bh) (a2.map bn.row) s3 (i1:Int) 0 (aO.r a0)) fz ?_
  refine uY (pt:=fun (i5:Nat) (s7:Unit)=>Pt.p1 (a1.map bh) (a2.map bn.row) s3 (i1:Int) (i5:Int) (aO.r a0)) (s:=(():Unit)) (out:=K4) (fun _ _=>True) (fun i5 s7 h6 hih6 K8 hK8 rK8=>?_) (fun s7 hih6=>?_) trivial
  ·simp only [step,SS]
   have bb_:=Bh6
   simp only [maxLen] at bb_
   have:=(H2).1
   refine dI (by apply decide_eq_true;omega) ?_
   refine dI aI ?_
   refine dI (aL h6) ?_
   refine dI dt ?_
   refine dI (have:=(H0).1;dt) ?_
   refine gR K8 (fun c9=>?_) (fun c9=>?_)
   ·refine dI aI ?_
    refine dI (aL h6) ?_
    refine cx (Z61.aj H1) ?_
    refine gR K8 (fun c10=>?_) (fun c10=>?_)
    ·rw [rK8]
     rw [aG h2 Bh2]
     first | exact hK4 _ trivial | (simp only [SS];exact hK4 _ trivial) | (simp only [MP];exact hK4 _ trivial)
    ·rw [aG h6 Bh6]
     first | exact hK8 _ trivial | (simp only [SS];exact hK8 _ trivial) | (simp only [MP];exact hK8 _ trivial)
   ·rw [aG h6 Bh6]
    first | exact hK8 _ trivial | (simp only [SS];exact hK8 _ trivial) | (simp only [MP];exact hK8 _ trivial)
  ·simp only [step,SS]
   have:=(H2).1
   refine dx (by apply decide_eq_false;omega) ?_
   rw [aG h2 Bh2]
   first | exact hK4 _ trivial | (simp only [SS];exact hK4 _ trivial) | (simp only [MP];exact hK4 _ trivial)
 ·simp only [step,SS]
  have:=(H0).1
  refine dx (by apply decide_eq_false;omega) ?_
  refine ⟨0,?_⟩
  all_goals exact fz
def af:cw 257 aT:=L3 45 pid cg bZ live step start mix aE bt (.cons Z61.af .nil) Tryz.func257
end Z62
namespace Z63
def F (x0:bD)(x1 x2:aC):aH:=(call (Z51.R x0) fun v1=>(cond v1 (call (Z62.R (x0,x1,x2)) fun v2=>ret ((decide (v2>=x0.cC)):Bool)) aY))
def md (a0:aO)(a1:List Int)(a2:List bn):Bool:=(cond (Z51.md a0) ((decide ((Z62.md a0 a1 a2)>=a0.cC)):Bool) (false:Bool))
def gd (a0:aO)(a1:List Int)(a2:List bn):Prop:=(aO.Sm (2^21) a0)/\(bL (2^38) (fun y:Int=>True) a1)/\(bL (2^21) (fun y:bn=>bn.Sm (2^21) y) a2)
def R:=RR (p3 gd) (u3 md)
def aj {a0 a1 a2}(h:gd a0 a1 a2):R ((aO.r a0),(a1.map bh),(a2.map bn.row))=some (md a0 a1 a2):=aN (a:=(a0,a1,a2)) h
def aT:=CN [.agg iU,pL 3,pL 190] oB RT.dec R
def bt (a0)(a1)(a2)(hg:gd a0 a1 a2):F (aO.r a0) (a1.map bh) (a2.map bn.row)=ret (md a0 a1 a2):=by
 obtain ⟨H0,H1,H2⟩:=hg
 unfold F md
 try simp only [SS]
 refine ct (Z51.aj H0) ?_
 refine au ret (fun c1=>?_) (fun _=>rfl)
 refine ct (Z62.aj ⟨H0,H1,H2⟩) ?_
 all_goals exact fz
def af:cw 228 aT:=W3 18 F mix aE bt (.cons Z51.af (.cons Z62.af .nil)) Tryz.func228
end Z63
namespace Z64
def F (x0:aR):aH:=(call (Z53.R x0.an) fun v1=>(cond v1 (cond (x0.an.cI==0) (cond (x0.an.bK==1) (cond (!x0.an.bE) (call (Z57.R (x0.an.bQ,x0.an.dy)) fun v2=>(cond (x0.an.bC==v2) (call (Z58.R x0.an) fun v3=>(call (Z63.R (x0.an.bQ,v3,x0.cm)) fun v4=>ret (v4:Bool))) aY)) aY) aY) aY) aY))
def md (a0:aa):Bool:=(cond (Z53.md a0.an) (cond (a0.an.cI==0) (cond (a0.an.bK==1) (cond (!a0.an.bE) (cond (a0.an.bC==(Z57.md a0.an.bQ a0.an.dy)) ((Z63.md a0.an.bQ (Z58.md a0.an) a0.cm):Bool) (false:Bool)) (false:Bool)) (false:Bool)) (false:Bool)) (false:Bool))
def gd (a0:aa):Prop:=(aa.Sm (2^21) a0)
def R:=RR gd md
def aj {a0}(h:gd a0):R (aa.r a0)=some (md a0):=aN (a:=a0) h
def aT:=CN [.agg kE] oB RT.dec R
def bt (a0)(hg:gd a0):F (aa.r a0)=ret (md a0):=by
 unfold gd at hg
 have H0:=hg
 unfold F md
 try simp only [SS]
 refine ct (Z53.aj H0.1) ?_
 refine au ret (fun c1=>?_) (fun _=>rfl)
 try have tc1:=Z53.tr (by simpa using c1)
 refine au ret (fun c2=>?_) (fun _=>rfl)
 have dc2:=c2
 try simp only [DC] at dc2
 refine au ret (fun c3=>?_) (fun _=>rfl)
 have dc3:=c3
 try simp only [DC] at dc3
 refine au ret (fun c4=>?_) (fun _=>rfl)
 have dc4:=c4
 try simp only [DC] at dc4
 refine ct (Z57.aj H0.1.1) ?_
 refine au ret (fun c5=>?_) (fun _=>rfl)
 have dc5:=c5
 try simp only [DC] at dc5
 refine ct (Z58.aj H0.1) ?_
 try simp only [SS]
 refine ct (Z63.aj ⟨H0.1.1,⟨(have:=Z58.len a0.an;have:=(H0.1.1).1;have:=(H0.1.2.1).1;have:=(H0.1.2.2).1;om),fun _ _=>trivial⟩,H0.2⟩) ?_
 all_goals exact fz
def af:cw 187 aT:=W1 42 F mix aE bt (.cons Z53.af (.cons Z57.af (.cons Z58.af (.cons Z63.af .nil)))) Tryz.func187
end Z64
namespace Z65
def F (x0:bY):aH:=(call (Z58.R x0) fun v1=>(ck (eT (((1:Int)+(v1.length:Int))*8)) (call (Z56.R ([[L.int 233]]++v1)) fun v2=>ret (v2:Int))))
def md (a0:aF):Int:=((Z56.md ([233]++(Z58.md a0))):Int)
def gd (a0:aF):Prop:=(aF.Sm (2^21) a0)
def R:=RR gd md
def aj {a0}(h:gd a0):R (aF.r a0)=some (md a0):=aN (a:=a0) h
def aT:=CN [.agg fW] oI RT.dec R
def bt (a0)(hg:gd a0):F (aF.r a0)=ret (md a0):=by
 unfold gd at hg
 have H0:=hg
 unfold F md
 try simp only [SS]
 refine ct (Z58.aj H0) ?_
 try simp only [SS]
 refine ak (have:=Z58.len a0;have:=(H0.1).1;have:=(H0.2.1).1;have:=(H0.2.2).1;lm) ?_
 refine aZ (Z56.md ([233]++(Z58.md a0))) (rq (Z56.aj (a0:=([233]++(Z58.md a0))) ⟨(have:=Z58.len a0;have:=(H0.1).1;have:=(H0.2.1).1;have:=(H0.2.2).1;om),fun _ _=>trivial⟩)) ?_
 all_goals exact fz
def af:cw 258 aT:=W1 8 F mix aE bt (.cons Z58.af (.cons Z56.af .nil)) Tryz.func258
end Z65
namespace Z66
def F (x0 x1:bY):aH:=(cond x0.bE (ret (4:Int)) (cond x1.bE (ret (6:Int)) (ret (1:Int))))
def md (a0 a1:aF):Int:=(cond a0.bE (4:Int) (cond a1.bE (6:Int) (1:Int)))
def gd (a0 a1:aF):Prop:=True
def R:=RR (p2 gd) (u2 md)
def aj {a0 a1}(h:gd a0 a1):R ((aF.r a0),(aF.r a1))=some (md a0 a1):=aN (a:=(a0,a1)) h
def aT:=CN [.agg fW,.agg fW] oI RT.dec R
def bt (a0)(a1)(hg:gd a0 a1):F (aF.r a0) (aF.r a1)=ret (md a0 a1):=by
 unfold F md
 try simp only [SS]
 refine au ret (fun _=>rfl) (fun c1=>?_)
 refine au ret (fun _=>rfl) (fun _=>rfl)
def af:cw 259 aT:=W2 11 F mix aE bt .nil Tryz.func259
end Z66
namespace Z67
inductive Pt where
 | p0 (a b:aC) (c:Int)
def pid:Pt->Nat
 | .p0 ..=>4
def cg:Pt->List V
 | .p0 a b c=>[.sl none 3 a,.sl none 3 b,.int .i64 c]
def bZ:Pt->List aW
 | .p0 a b c=>[]
def step (J:Pt->aH):Pt->aH
 | .p0 a b c=>(cond (decide (c<(a.length:Int))) (m2 c (a.length:Int) (m2 c (b.length:Int) (cond ((je a (toNat c)) != (je b (toNat c))) aY (J (.p0 a b (i64.wrap (c+1))))))) ep)
def start (J:Pt->aH)(x0 x1:aC):aH:=(cond ((x0.length:Int) != (x1.length:Int)) aY (J (.p0 x0 x1 0)))
def live:Nat->Live:=fun i=>match i with | 4=>[(0,none),(1,none),(5,none)] | _=>[]
def md (a0 a1:List Int):Bool:=(bif ((a0.length:Int) != (a1.length:Int)) then (false:Bool) else (eo (S:=Unit) (β:=Bool) (fun (i2:Nat) (s4:Unit)=>(cond ((a0.getD i2 0) != (a1.getD i2 0)) (.inr (false:Bool)) (.inl ()))) (fun (s4:Unit)=>(true:Bool)) a0.length 0 ()))
def gd (a0 a1:List Int):Prop:=(bL (2^38) (fun y:Int=>True) a0)/\(bL (2^38) (fun y:Int=>True) a1)
def R:=RR (p2 gd) (u2 md)
def aj {a0 a1}(h:gd a0 a1):R ((a0.map bh),(a1.map bh))=some (md a0 a1):=aN (a:=(a0,a1)) h
def aT:=CN [pL 3,pL 3] oB RT.dec R
def bt (a0)(a1)(hg:gd a0 a1):∃n,start (iter step n) (a0.map bh) (a1.map bh)=ret (md a0 a1):=by
 obtain ⟨H0,H1⟩:=hg
 unfold start md
 try simp only [SS]
 refine gR ret (fun _=>⟨0,rfl⟩) (fun c1=>?_)
 have dc1:=c1
 try simp only [DC] at dc1
 have Bh3:a0.length<=maxLen:=(by
   have:=(H0).1
   try simp only [maxLen] at *
   omega)
 refine dK (p:=Pt.p0 (a0.map bh) (a1.map bh) 0) fz ?_
 refine cj (pt:=fun (i2:Nat) (s4:Unit)=>Pt.p0 (a0.map bh) (a1.map bh) (i2:Int)) (s:=(():Unit)) (out:=ret) (fun _ _=>True) (fun J i2 s4 h3 hih3=>?_) (fun s4 hih3=>?_) trivial
 ·simp only [step,SS]
  have bb_:=Bh3
  simp only [maxLen] at bb_
  have:=(H0).1
  refine bz.yes (by apply decide_eq_true;omega) ?_
  refine bz.yes aI ?_
  refine bz.yes (aL h3) ?_
  refine bz.yes aI ?_
  refine bz.yes (have:=(H1).1;dt) ?_
  refine bz.bif (fun _=>bz.inr rfl) (fun c5=>?_)
  refine bz.inl trivial ?_
  rw [aG h3 Bh3]
  all_goals exact fz
 ·simp only [step,SS]
  have:=(H0).1
  refine dx (by apply decide_eq_false;omega) ?_
  refine ⟨0,?_⟩
  all_goals exact fz
def af:cw 189 aT:=L2 26 pid cg bZ live step start mix aE bt .nil Tryz.func189
def md_eq (a0 a1:List Int):md a0 a1=dW a0 a1:=by
 unfold md
 refine ke (0) (fun i s h h2=>?_) (fun s=>rfl)
 simp only [bne,eZ,bool_beq,eO]
 cases dW _ _<;>rfl
end Z67
namespace Z68
def F (x0 x1:bD):aH:=(cond (x0.cC==x1.cC) (call (Z67.R (x0.aX,x1.aX)) fun v1=>ret (v1:Bool)) aY)
def md (a0 a1:aO):Bool:=(cond (a0.cC==a1.cC) ((Z67.md a0.aX a1.aX):Bool) (false:Bool))
def gd (a0 a1:aO):Prop:=(aO.Sm (2^21) a0)/\(aO.Sm (2^21) a1)
def R:=RR (p2 gd) (u2 md)
def aj {a0 a1}(h:gd a0 a1):R ((aO.r a0),(aO.r a1))=some (md a0 a1):=aN (a:=(a0,a1)) h
def aT:=CN [.agg iU,.agg iU] oB RT.dec R
def bt (a0)(a1)(hg:gd a0 a1):F (aO.r a0) (aO.r a1)=ret (md a0 a1):=by
 obtain ⟨H0,H1⟩:=hg
 unfold F md
 try simp only [SS]
 refine au ret (fun c1=>?_) (fun _=>rfl)
 refine ct (Z67.aj ⟨(H0.mono (by decide) (fun x hx=>trivial)),(H1.mono (by decide) (fun x hx=>trivial))⟩) ?_
 all_goals exact fz
def af:cw 284 aT:=W2 17 F mix aE bt (.cons Z67.af .nil) Tryz.func284
def md_eq (a0 a1:aO):md a0 a1=dW a0 a1:=by
 unfold md
 cases a0;cases a1
 rw [Bool.eq_iff_iff]
 simp [dc,eO,aO.mk.injEq,Z67.md_eq]
 try (constructor<;>(intro h;simp_all))
end Z68
namespace Z69
def F (x0 x1:bY):aH:=(cond (x0.cq==x1.cq) (ret ((x0.cW==x1.cW):Bool)) aY)
def md (a0 a1:aF):Bool:=(cond (a0.cq==a1.cq) ((a0.cW==a1.cW):Bool) (false:Bool))
def gd (a0 a1:aF):Prop:=True
def R:=RR (p2 gd) (u2 md)
def aj {a0 a1}(h:gd a0 a1):R ((aF.r a0),(aF.r a1))=some (md a0 a1):=aN (a:=(a0,a1)) h
def aT:=CN [.agg fW,.agg fW] oB RT.dec R
def bt (a0)(a1)(hg:gd a0 a1):F (aF.r a0) (aF.r a1)=ret (md a0 a1):=by
 unfold F md
 try simp only [SS]
 refine au ret (fun c1=>?_) (fun _=>rfl)
 all_goals exact fz
def af:cw 285 aT:=W2 17 F mix aE bt .nil Tryz.func285
end Z69
namespace Z70
def F (x0 x1:bY):aH:=(cond x0.bE (ret (4:Int)) (call (Z52.R x0.bB) fun v1=>(cond v1 (ret (5:Int)) (cond (decide (x1.cG<(i64.wrap (x0.cz+x0.cY)))) (ret (5:Int)) (cond x1.bE (ret (6:Int)) (call (Z68.R (x1.bQ,x0.bB)) fun v2=>(cond (!v2) (ret (6:Int)) (call (Z69.R (x1,x0)) fun v3=>(cond (!v3) (ret (6:Int)) (ret (1:Int)))))))))))
def md (a0 a1:aF):Int:=(cond a0.bE (4:Int) (cond (Z52.md a0.bB) (5:Int) (cond (decide (a1.cG<(i64.wrap (a0.cz+a0.cY)))) (5:Int) (cond a1.bE (6:Int) (cond (!(Z68.md a1.bQ a0.bB)) (6:Int) (cond (!(Z69.md a1 a0)) (6:Int) (1:Int)))))))
def gd (a0 a1:aF):Prop:=(aF.Sm (2^21) a0)/\(aF.Sm (2^21) a1)
def R:=RR (p2 gd) (u2 md)
def aj {a0 a1}(h:gd a0 a1):R ((aF.r a0),(aF.r a1))=some (md a0 a1):=aN (a:=(a0,a1)) h
def aT:=CN [.agg fW,.agg fW] oI RT.dec R
def bt (a0)(a1)(hg:gd a0 a1):F (aF.r a0) (aF.r a1)=ret (md a0 a1):=by
 obtain ⟨H0,H1⟩:=hg
 unfold F md
 try simp only [SS]
 refine au ret (fun _=>rfl) (fun c1=>?_)
 refine ct (Z52.aj trivial) ?_
 refine au ret (fun _=>rfl) (fun c2=>?_)
 refine au ret (fun _=>rfl) (fun c3=>?_)
 refine au ret (fun _=>rfl) (fun c4=>?_)
 refine ct (Z68.aj ⟨H1.1,H0.2.1⟩) ?_
 refine au ret (fun _=>rfl) (fun c5=>?_)
 refine ct (Z69.aj trivial) ?_
 refine au ret (fun _=>rfl) (fun _=>rfl)
def af:cw 260 aT:=W2 39 F mix aE bt (.cons Z52.af (.cons Z68.af (.cons Z69.af .nil))) Tryz.func260
end Z70
namespace Z71
def F (x0 x1:bY):aH:=(call (Z52.R x0.bw) fun v1=>(cond v1 (ret (5:Int)) (cond (x1.bE==x0.bE) (ret (6:Int)) (call (Z69.R (x1,x0)) fun v2=>(cond (!v2) (ret (6:Int)) (call (Z68.R (x1.bw,x0.bw)) fun v3=>(cond (!v3) (ret (6:Int)) (call (Z68.R (x1.bB,x0.bB)) fun v4=>(cond (!v4) (ret (6:Int)) (cond (x1.cY != x0.cY) (ret (6:Int)) (cond x1.bE (call (Z68.R (x1.bQ,x0.bQ)) fun v5=>(cond (!v5) (ret (6:Int)) (ret (1:Int)))) (ret (1:Int)))))))))))))
def md (a0 a1:aF):Int:=(cond (Z52.md a0.bw) (5:Int) (cond (a1.bE==a0.bE) (6:Int) (cond (!(Z69.md a1 a0)) (6:Int) (cond (!(Z68.md a1.bw a0.bw)) (6:Int) (cond (!(Z68.md a1.bB a0.bB)) (6:Int) (cond (a1.cY != a0.cY) (6:Int) (cond a1.bE (cond (!(Z68.md a1.bQ a0.bQ)) (6:Int) (1:Int)) (1:Int))))))))
def gd (a0 a1:aF):Prop:=(aF.Sm (2^21) a0)/\(aF.Sm (2^21) a1)
def R:=RR (p2 gd) (u2 md)
def aj {a0 a1}(h:gd a0 a1):R ((aF.r a0),(aF.r a1))=some (md a0 a1):=aN (a:=(a0,a1)) h
def aT:=CN [.agg fW,.agg fW] oI RT.dec R
def bt (a0)(a1)(hg:gd a0 a1):F (aF.r a0) (aF.r a1)=ret (md a0 a1):=by
 obtain ⟨H0,H1⟩:=hg
 unfold F md
 try simp only [SS]
 refine ct (Z52.aj trivial) ?_
 refine au ret (fun _=>rfl) (fun c1=>?_)
 refine au ret (fun _=>rfl) (fun c2=>?_)
 refine ct (Z69.aj trivial) ?_
 refine au ret (fun _=>rfl) (fun c3=>?_)
 refine ct (Z68.aj ⟨H1.2.2,H0.2.2⟩) ?_
 refine au ret (fun _=>rfl) (fun c4=>?_)
 refine ct (Z68.aj ⟨H1.2.1,H0.2.1⟩) ?_
 refine au ret (fun _=>rfl) (fun c5=>?_)
 refine au ret (fun _=>rfl) (fun c6=>?_)
 refine au ret (fun c7=>?_) (fun _=>rfl)
 refine ct (Z68.aj ⟨H1.1,H0.1⟩) ?_
 refine au ret (fun _=>rfl) (fun _=>rfl)
def af:cw 261 aT:=W2 55 F mix aE bt (.cons Z52.af (.cons Z69.af (.cons Z68.af .nil))) Tryz.func261
end Z71
namespace Z72
def F (x0:bY)(x1:aR):aH:=(call (Z53.R x0) fun v1=>(cond (!v1) (ret (2:Int)) (call (Z53.R x1.an) fun v2=>(cond (!v2) (ret (2:Int)) (cond (x1.an.bC != x0.bC) (ret (3:Int)) (cond (x1.an.cI != (i64.wrap (x0.cI+1))) (ret (3:Int)) (call (Z65.R x0) fun v3=>(cond (x1.an.dy != v3) (ret (3:Int)) (cond (decide (x1.an.cG<x0.cG)) (ret (3:Int)) (call (Z66.R (x0,x1.an)) fun v4=>(cond (x1.an.bK==2) (call (Z70.R (x0,x1.an)) fun v5=>(cond (v5==1) (call (Z58.R x1.an) fun v6=>(call (Z63.R (x0.bB,v6,x1.cm)) fun v7=>(cond (!v7) (ret (7:Int)) (ret (v5:Int))))) (ret (v5:Int)))) (cond (x1.an.bK==3) (call (Z71.R (x0,x1.an)) fun v8=>(cond (v8==1) (call (Z58.R x1.an) fun v9=>(call (Z63.R (x0.bw,v9,x1.cm)) fun v10=>(cond (!v10) (ret (7:Int)) (ret (v8:Int))))) (ret (v8:Int)))) (cond (v4==1) (call (Z58.R x1.an) fun v11=>(call (Z63.R (x0.bQ,v11,x1.cm)) fun v12=>(cond (!v12) (ret (7:Int)) (ret (v4:Int))))) (ret (v4:Int)))))))))))))))
def md (a0:aF)(a1:aa):Int:=(cond (!(Z53.md a0)) (2:Int) (cond (!(Z53.md a1.an)) (2:Int) (cond (a1.an.bC != a0.bC) (3:Int) (cond (a1.an.cI != (i64.wrap (a0.cI+1))) (3:Int) (cond (a1.an.dy != (Z65.md a0)) (3:Int) (cond (decide (a1.an.cG<a0.cG)) (3:Int) (cond (a1.an.bK==2) (cond ((Z70.md a0 a1.an)==1) (cond (!(Z63.md a0.bB (Z58.md a1.an) a1.cm)) (7:Int) ((Z70.md a0 a1.an):Int)) ((Z70.md a0 a1.an):Int)) (cond (a1.an.bK==3) (cond ((Z71.md a0 a1.an)==1) (cond (!(Z63.md a0.bw (Z58.md a1.an) a1.cm)) (7:Int) ((Z71.md a0 a1.an):Int)) ((Z71.md a0 a1.an):Int)) (cond ((Z66.md a0 a1.an)==1) (cond (!(Z63.md a0.bQ (Z58.md a1.an) a1.cm)) (7:Int) ((Z66.md a0 a1.an):Int)) ((Z66.md a0 a1.an):Int))))))))))
def gd (a0:aF)(a1:aa):Prop:=(aF.Sm (2^21) a0)/\(aa.Sm (2^21) a1)
def R:=RR (p2 gd) (u2 md)
def aj {a0 a1}(h:gd a0 a1):R ((aF.r a0),(aa.r a1))=some (md a0 a1):=aN (a:=(a0,a1)) h
def aT:=CN [.agg fW,.agg kE] oI RT.dec R
def bt (a0)(a1)(hg:gd a0 a1):F (aF.r a0) (aa.r a1)=ret (md a0 a1):=by
 obtain ⟨H0,H1⟩:=hg
 unfold F md
 try simp only [SS]
 refine ct (Z53.aj H0) ?_
 refine au ret (fun _=>rfl) (fun c1=>?_)
 have dc1:=c1
 try simp only [DC] at dc1
 try have tc1:=Z53.tr (by simpa using c1)
 refine ct (Z53.aj H1.1) ?_
 refine au ret (fun _=>rfl) (fun c2=>?_)
 have dc2:=c2
 try simp only [DC] at dc2
 try have tc2:=Z53.tr (by simpa using c2)
 refine au ret (fun _=>rfl) (fun c3=>?_)
 have dc3:=c3
 try simp only [DC] at dc3
 refine au ret (fun _=>rfl) (fun c4=>?_)
 have dc4:=c4
 try simp only [DC] at dc4
 refine ct (Z65.aj H0) ?_
 refine au ret (fun _=>rfl) (fun c5=>?_)
 have dc5:=c5
 try simp only [DC] at dc5
 refine au ret (fun _=>rfl) (fun c6=>?_)
 have dc6:=c6
 try simp only [DC] at dc6
 refine ct (Z66.aj trivial) ?_
 refine au ret (fun c7=>?_) (fun c7=>?_)
 ·have dc7:=c7
  try simp only [DC] at dc7
  refine ct (Z70.aj ⟨H0,H1.1⟩) ?_
  refine au ret (fun c8=>?_) (fun c8=>?_)
  ·have dc8:=c8
   try simp only [DC] at dc8
   refine ct (Z58.aj H1.1) ?_
   try simp only [SS]
   refine ct (Z63.aj ⟨H0.2.1,⟨(have:=Z58.len a1.an;have:=(H1.1.1).1;have:=(H1.1.2.1).1;have:=(H1.1.2.2).1;om),fun _ _=>trivial⟩,H1.2⟩) ?_
   refine au ret (fun _=>rfl) (fun c9=>?_)
   all_goals exact fz
  ·all_goals exact fz
 ·have dc7:=c7
  try simp only [DC] at dc7
  refine au ret (fun c10=>?_) (fun c10=>?_)
  ·have dc10:=c10
   try simp only [DC] at dc10
   refine ct (Z71.aj ⟨H0,H1.1⟩) ?_
   refine au ret (fun c11=>?_) (fun c11=>?_)
   ·have dc11:=c11
    try simp only [DC] at dc11
    refine ct (Z58.aj H1.1) ?_
    try simp only [SS]
    refine ct (Z63.aj ⟨H0.2.2,⟨(have:=Z58.len a1.an;have:=(H1.1.1).1;have:=(H1.1.2.1).1;have:=(H1.1.2.2).1;om),fun _ _=>trivial⟩,H1.2⟩) ?_
    refine au ret (fun _=>rfl) (fun c12=>?_)
    all_goals exact fz
   ·all_goals exact fz
  ·have dc10:=c10
   try simp only [DC] at dc10
   refine au ret (fun c13=>?_) (fun c13=>?_)
   ·have dc13:=c13
    try simp only [DC] at dc13
    refine ct (Z58.aj H1.1) ?_
    try simp only [SS]
    refine ct (Z63.aj ⟨H0.1,⟨(have:=Z58.len a1.an;have:=(H1.1.1).1;have:=(H1.1.2.1).1;have:=(H1.1.2.2).1;om),fun _ _=>trivial⟩,H1.2⟩) ?_
    refine au ret (fun _=>rfl) (fun c14=>?_)
    all_goals exact fz
   ·all_goals exact fz
def af:cw 229 aT:=W2 78 F mix aE bt (.cons Z53.af (.cons Z65.af (.cons Z66.af (.cons Z70.af (.cons Z58.af (.cons Z63.af (.cons Z71.af .nil))))))) Tryz.func229
end Z72
namespace Z73
def F (x0:bY)(x1:aR):aH:=(call (Z72.R (x0,x1)) fun v1=>ret ((v1==1):Bool))
def md (a0:aF)(a1:aa):Bool:=(((Z72.md a0 a1)==1):Bool)
def gd (a0:aF)(a1:aa):Prop:=(aF.Sm (2^21) a0)/\(aa.Sm (2^21) a1)
def R:=RR (p2 gd) (u2 md)
def aj {a0 a1}(h:gd a0 a1):R ((aF.r a0),(aa.r a1))=some (md a0 a1):=aN (a:=(a0,a1)) h
def aT:=CN [.agg fW,.agg kE] oB RT.dec R
def bt (a0)(a1)(hg:gd a0 a1):F (aF.r a0) (aa.r a1)=ret (md a0 a1):=by
 obtain ⟨H0,H1⟩:=hg
 unfold F md
 try simp only [SS]
 refine ct (Z72.aj ⟨H0,H1⟩) ?_
 all_goals exact fz
def af:cw 188 aT:=W2 9 F mix aE bt (.cons Z72.af .nil) Tryz.func188
end Z73
namespace Z74
inductive Pt where
 | p0 (a:aC) (b:Int)
def pid:Pt->Nat
 | .p0 ..=>2
def cg:Pt->List V
 | .p0 a b=>[.sl none 141 a,.int .i64 b]
def bZ:Pt->List aW
 | .p0 a b=>[]
def step (J:Pt->aH):Pt->aH
 | .p0 a b=>(cond (decide (b<(a.length:Int))) (cond (b==0) (ck (decide ((0:Int)<(a.length:Int))) (call (Z64.R (aR.at a 0)) fun v1=>(cond (!v1) (ret (b:Int)) (cond (decide (b>0)) (ck (decide ((0:Int)<=(i64.wrap (b - 1)))) (ck (decide ((i64.wrap (b - 1))<(a.length:Int))) (m2 b (a.length:Int) (call (Z73.R ((aR.at a (toNat (i64.wrap (b - 1)))).an,(aR.at a (toNat b)))) fun v2=>(cond (!v2) (ret (b:Int)) (J (.p0 a (i64.wrap (b+1))))))))) (J (.p0 a (i64.wrap (b+1)))))))) (cond (decide (b>0)) (ck (decide ((0:Int)<=(i64.wrap (b - 1)))) (ck (decide ((i64.wrap (b - 1))<(a.length:Int))) (m2 b (a.length:Int) (call (Z73.R ((aR.at a (toNat (i64.wrap (b - 1)))).an,(aR.at a (toNat b)))) fun v3=>(cond (!v3) (ret (b:Int)) (J (.p0 a (i64.wrap (b+1))))))))) (J (.p0 a (i64.wrap (b+1)))))) (ret ((-1):Int)))
def start (J:Pt->aH)(x0:aC):aH:=J (.p0 x0 0)
def live:Nat->Live:=fun i=>match i with | 2=>[(0,none),(3,none)] | _=>[]
def md (a0:List aa):Int:=(dQ (S:=Unit) (β:=Int) (fun (i1:Nat) (y1:aa) (s3:Unit)=>(cond ((i1:Int)==0) (cond (!(Z64.md (a0.getD 0 aa.zero))) (.inr ((i1:Int):Int)) (cond (decide ((i1:Int)>0)) (cond (!(Z73.md ((a0.getD (toNat (i64.wrap ((i1:Int) - 1))) aa.zero).an) y1)) (.inr ((i1:Int):Int)) (.inl ())) (.inl ()))) (cond (decide ((i1:Int)>0)) (cond (!(Z73.md ((a0.getD (toNat (i64.wrap ((i1:Int) - 1))) aa.zero).an) y1)) (.inr ((i1:Int):Int)) (.inl ())) (.inl ())))) (fun (s3:Unit)=>((-1):Int)) 0 a0 ())
def gd (a0:List aa):Prop:=(bL (2^21) (fun y:aa=>aa.Sm (2^21) y) a0)
def R:=RR gd md
def aj {a0}(h:gd a0):R (a0.map aa.row)=some (md a0):=aN (a:=a0) h
def aT:=CN [pL 141] oI RT.dec R
def bt (a0)(hg:gd a0):∃n,start (iter step n) (a0.map aa.row)=ret (md a0):=by
 unfold gd at hg
 have H0:=hg
 unfold start md
 try simp only [SS]
 have Bh2:a0.length<=maxLen:=(by
   have:=(H0).1
   try simp only [maxLen] at *
   omega)
 refine ex_eq (out:=ret) (cR (z:=aa.zero)) ?_
 refine dK (p:=Pt.p0 (a0.map aa.row) 0) fz ?_
 refine cj (pt:=fun (i1:Nat) (s3:Unit)=>Pt.p0 (a0.map aa.row) (i1:Int)) (s:=(():Unit)) (out:=ret) (fun _ _=>True) (fun J i1 s3 h2 hih2=>?_) (fun s3 hih2=>?_) trivial
 ·simp only [step,SS]
  have bb_:=Bh2
  simp only [maxLen] at bb_
  have:=(H0).1
  refine bz.yes (by apply decide_eq_true;omega) ?_
  refine bz.bif (fun c4=>?_) (fun c4=>?_)
  ·have dc4:=c4
   try simp only [DC] at dc4
   refine bz.yes (have:=(H0).1;dt) ?_
   refine cr (Z64.aj (bL.getD (z:=aa.zero) H0 (by first | assumption | omega | (simp (disch:=omega) only [wi];omega) | (simp;omega)))) ?_
   refine bz.bif (fun c5=>?_) (fun c5=>?_)
   ·refine bz.inr ?_
    all_goals exact fz
   ·have dc5:=c5
    try simp only [DC] at dc5
    refine bz.bif (fun c6=>?_) (fun c6=>?_)
    ·have dc6:=c6
     try simp only [DC] at dc6
     refine bz.yes dt ?_
     refine bz.yes (have:=(H0).1;dt) ?_
     refine bz.yes aI ?_
     refine bz.yes (aL h2) ?_
     refine cr (Z73.aj ⟨(bL.getD (z:=aa.zero) H0 (by first | assumption | omega | (simp (disch:=omega) only [wi];omega) | (simp;omega))).1,(bL.getD (z:=aa.zero) H0 h2)⟩) ?_
     refine bz.bif (fun c7=>?_) (fun c7=>?_)
     ·refine bz.inr ?_
      all_goals exact fz
     ·refine bz.inl trivial ?_
      rw [aG h2 Bh2]
      all_goals exact fz
    ·refine bz.inl trivial ?_
     rw [aG h2 Bh2]
     all_goals exact fz
  ·have dc4:=c4
   try simp only [DC] at dc4
   refine bz.bif (fun c8=>?_) (fun c8=>?_)
   ·have dc8:=c8
    try simp only [DC] at dc8
    refine bz.yes dt ?_
    refine bz.yes (have:=(H0).1;dt) ?_
    refine bz.yes aI ?_
    refine bz.yes (aL h2) ?_
    refine cr (Z73.aj ⟨(bL.getD (z:=aa.zero) H0 (by first | assumption | omega | (simp (disch:=omega) only [wi];omega) | (simp;omega))).1,(bL.getD (z:=aa.zero) H0 h2)⟩) ?_
    refine bz.bif (fun c9=>?_) (fun c9=>?_)
    ·refine bz.inr ?_
     all_goals exact fz
    ·refine bz.inl trivial ?_
     rw [aG h2 Bh2]
     all_goals exact fz
   ·refine bz.inl trivial ?_
    rw [aG h2 Bh2]
    all_goals exact fz
 ·simp only [step,SS]
  have:=(H0).1
  refine dx (by apply decide_eq_false;omega) ?_
  refine ⟨0,?_⟩
  all_goals exact fz
def af:cw 153 aT:=L1 38 pid cg bZ live step start mix aE bt (.cons Z64.af (.cons Z73.af .nil)) Tryz.func153
end Z74
namespace Z75
def F (x0:aC):aH:=(call (Z47.R ((x0.length:Int),1,12)) fun v1=>(cond v1 (call (Z74.R x0) fun v2=>ret ((decide (v2<0)):Bool)) aY))
def md (a0:List aa):Bool:=(cond (Z47.md (a0.length:Int) 1 12) ((decide ((Z74.md a0)<0)):Bool) (false:Bool))
def gd (a0:List aa):Prop:=(bL (2^21) (fun y:aa=>aa.Sm (2^21) y) a0)
def R:=RR gd md
def aj {a0}(h:gd a0):R (a0.map aa.row)=some (md a0):=aN (a:=a0) h
def aT:=CN [pL 141] oB RT.dec R
def bt (a0)(hg:gd a0):F (a0.map aa.row)=ret (md a0):=by
 unfold gd at hg
 have H0:=hg
 unfold F md
 try simp only [SS]
 refine ct (Z47.aj trivial) ?_
 refine au ret (fun c1=>?_) (fun _=>rfl)
 refine ct (Z74.aj H0) ?_
 all_goals exact fz
def af:cw 121 aT:=W1 11 F mix aE bt (.cons Z47.af (.cons Z74.af .nil)) Tryz.func121
def tr {a0:List aa}(h:md a0=true):1<=a0.length/\a0.length<=12:=by simp [md,Z47.md] at h;omega
def qP {l:List aa}(h:md l=true):∀i,i<l.length->Z53.md (l.getD i aa.zero).an=true:=by
 intro i hi
 have hl:=tr h
 have h1:Z74.md l<0:=by
  unfold md at h
  cases hc:Z47.md (l.length:Int) 1 12<;>rw [hc] at h
  ·cases h
  ·simpa using h
 unfold Z74.md at h1
 have h2:=rU (z:=aa.zero) (by
  intro i x s b h
  revert h
  simp only [Bool.cond_eq_ite]
  repeat' split
  all_goals (intro h;first | (cases h;rfl) | cases h)) h1 i hi
 by_cases h0:i=0
 ·subst h0
  cases hf:Z64.md (l.getD 0 aa.zero)
  ·rw [hf] at h2;cases h2
  ·unfold Z64.md at hf
   cases hh:Z53.md (l.getD 0 aa.zero).an
   ·rw [hh] at hf;cases hf
   ·rfl
 ·have e:((i:Int)==0)=false:=beq_eq_false_iff_ne.2 (by omega)
  have e2:decide ((i:Int)>0)=true:=by simpa using by omega
  simp only [e,e2,bq,bf] at h2
  cases hf:Z73.md ((l.getD (toNat (i64.wrap ((i:Int) - 1))) aa.zero).an) (l.getD i aa.zero)
  ·rw [hf] at h2;cases h2
  ·unfold Z73.md Z72.md at hf
   cases hh:Z53.md (l.getD i aa.zero).an
   ·rw [hh] at hf
    cases hp:Z53.md ((l.getD (toNat (i64.wrap ((i:Int) - 1))) aa.zero).an)<;>rw [hp] at hf<;>cases hf
   ·rfl
def A9 {l:List aa}(h:md l=true):∀i,i<l.length->(l.getD i aa.zero).an.bC=(l.getD 0 aa.zero).an.bC:=by
 have hl:=tr h
 have h1:Z74.md l<0:=by
  unfold md at h
  cases hc:Z47.md (l.length:Int) 1 12<;>rw [hc] at h
  ·cases h
  ·simpa using h
 unfold Z74.md at h1
 have h2:=rU (z:=aa.zero) (by
  intro i x s b h
  revert h
  simp only [Bool.cond_eq_ite]
  repeat' split
  all_goals (intro h;first | (cases h;rfl) | cases h)) h1
 intro i
 induction i with
 | zero=>intro _;rfl
 | succ i ih=>
  intro hi
  have h3:=h2 (i+1) hi
  have e:(((i+1:Nat):Int)==0)=false:=beq_eq_false_iff_ne.2 (by omega)
  have e2:decide (((i+1:Nat):Int)>0)=true:=by simpa using by omega
  have ei:toNat (i64.wrap (((i+1:Nat):Int) - 1))=i:=by simp (disch:=omega) only [wi];omega
  simp only [e,e2,bq,bf] at h3
  rw [ei] at h3
  cases hf:Z73.md ((l.getD i aa.zero).an) (l.getD (i+1) aa.zero)
  ·rw [hf] at h3;cases h3
  ·unfold Z73.md Z72.md at hf
   cases hz:((l.getD (i+1) aa.zero).an.bC != (l.getD i aa.zero).an.bC)
   ·rw [<-ih (by omega)];exact (by simpa using hz)
   ·rw [hz] at hf
    cases hp:Z53.md (l.getD i aa.zero).an<;>rw [hp] at hf
    ·cases hf
    ·cases hh:Z53.md (l.getD (i+1) aa.zero).an<;>rw [hh] at hf<;>cases hf
end Z75
namespace Z76
def F (x0:aC):aH:=(call (Z75.R x0) fun v1=>(cond (!v1) (ret (((⟨0,0,0,0,0,0,0,0,(⟨[],0⟩:bD),(⟨[],0⟩:bD),0,(⟨[],0⟩:bD),false⟩:bY),false):bY×Bool)) (ck (decide ((0:Int)<=(i64.wrap ((x0.length:Int) - 1)))) (ck (decide ((i64.wrap ((x0.length:Int) - 1))<(x0.length:Int))) (call (Z42.R ((aR.at x0 (toNat (i64.wrap ((x0.length:Int) - 1)))).an)) fun v2=>ret ((v2,true):bY×Bool))))))
def md (a0:List aa):aF×Bool:=(cond (!(Z75.md a0)) ((⟨0,0,0,0,0,0,0,0,(⟨[],0⟩:aO),(⟨[],0⟩:aO),0,(⟨[],0⟩:aO),false⟩:aF),false) (((a0.getD (toNat (i64.wrap ((a0.length:Int) - 1))) aa.zero).an),true))
def gd (a0:List aa):Prop:=(bL (2^21) (fun y:aa=>aa.Sm (2^21) y) a0)
def R:=RR gd md
def aj {a0}(h:gd a0):R (a0.map aa.row)=some ((aF.r (md a0).1),(md a0).2):=aN (a:=a0) h
def aT:=CN [pL 141] (.iE [(true,f138),(false,[fB])]) RT.dec R
def bt (a0)(hg:gd a0):F (a0.map aa.row)=ret ((aF.r (md a0).1),(md a0).2):=by
 unfold gd at hg
 have H0:=hg
 unfold F md
 try simp only [SS]
 refine ct (Z75.aj H0) ?_
 refine au (fun b:aF×Bool=>ret (((aF.r b.1),b.2):bY×Bool)) (fun c1=>?_) (fun c1=>?_)
 ·all_goals exact fz
 ·have dc1:=c1
  try simp only [DC] at dc1
  try have tc1:=Z75.tr (by simpa using c1)
  refine ak (have:=(H0).1;dt) ?_
  refine ak (have:=(H0).1;dt) ?_
  refine ct (Z42.aj (bL.getD (z:=aa.zero) H0 (by first | assumption | omega | (simp (disch:=omega) only [wi];omega) | (simp;omega))).1) ?_
  try simp only [SS]
  all_goals exact fz
def af:cw 101 aT:=W1 16 F mix aE bt (.cons Z75.af (.cons Z42.af .nil)) Tryz.func101
def head {l:List aa}(h:(md l).2=true):Z75.md l=true/\(md l).1=(l.getD (l.length - 1) aa.zero).an/\Z53.md (md l).1=true:=by
 unfold md at h ⊢
 cases hc:Z75.md l
 ·rw [hc] at h;cases h
 ·have hl:=Z75.tr hc
  have hw:toNat (i64.wrap ((l.length:Int) - 1))=l.length - 1:=by
   rw [Go.IntWalk.i64_in _ (by omega)];omega
  simp only [Bool.not_true,bq,hw]
  exact ⟨trivial,trivial,Z75.qP hc _ (by omega)⟩
end Z76
namespace Z77
def F (x0:aU):aH:=(cond (x0.bK==1) (call (Z48.R x0.bk) fun v1=>(cond v1 (call (Z47.R (x0.bW,0,999999)) fun v2=>(cond v2 (ret (((x0.bI.length:Int)==0):Bool)) aY)) aY)) (cond (x0.bK==2) (call (Z48.R x0.bk) fun v3=>(cond v3 (call (Z47.R (x0.bW,0,2147483646)) fun v4=>(cond v4 (ret (((x0.bI.length:Int)==0):Bool)) aY)) aY)) (cond (x0.bK==3) (call (Z48.R x0.bk) fun v5=>(cond v5 (call (Z47.R (x0.bW,0,2147483646)) fun v6=>(cond v6 (call (Z49.R x0.bI) fun v7=>ret (v7:Bool)) aY)) aY)) aY)))
def md (a0:ah):Bool:=(cond (a0.bK==1) (cond (Z48.md a0.bk) (cond (Z47.md a0.bW 0 999999) (((a0.bI.length:Int)==0):Bool) (false:Bool)) (false:Bool)) (cond (a0.bK==2) (cond (Z48.md a0.bk) (cond (Z47.md a0.bW 0 2147483646) (((a0.bI.length:Int)==0):Bool) (false:Bool)) (false:Bool)) (cond (a0.bK==3) (cond (Z48.md a0.bk) (cond (Z47.md a0.bW 0 2147483646) ((Z49.md a0.bI):Bool) (false:Bool)) (false:Bool)) (false:Bool))))
def gd (a0:ah):Prop:=(ah.Sm (2^21) a0)
def R:=RR gd md
def aj {a0}(h:gd a0):R (ah.r a0)=some (md a0):=aN (a:=a0) h
def aT:=CN [.agg qX] oB RT.dec R
def bt (a0)(hg:gd a0):F (ah.r a0)=ret (md a0):=by
 unfold gd at hg
 have H0:=hg
 unfold F md
 try simp only [SS]
 refine au ret (fun c1=>?_) (fun c1=>?_)
 ·refine ct (Z48.aj (le_trans H0.1 (by decide))) ?_
  refine au ret (fun c2=>?_) (fun _=>rfl)
  refine ct (Z47.aj trivial) ?_
  refine au ret (fun c3=>?_) (fun _=>rfl)
  all_goals exact fz
 ·refine au ret (fun c4=>?_) (fun c4=>?_)
  ·refine ct (Z48.aj (le_trans H0.1 (by decide))) ?_
   refine au ret (fun c5=>?_) (fun _=>rfl)
   refine ct (Z47.aj trivial) ?_
   refine au ret (fun c6=>?_) (fun _=>rfl)
   all_goals exact fz
  ·refine au ret (fun c7=>?_) (fun _=>rfl)
   refine ct (Z48.aj (le_trans H0.1 (by decide))) ?_
   refine au ret (fun c8=>?_) (fun _=>rfl)
   refine ct (Z47.aj trivial) ?_
   refine au ret (fun c9=>?_) (fun _=>rfl)
   refine ct (Z49.aj (H0.2.mono (by decide) (fun x hx=>(le_trans hx (by decide))))) ?_
   all_goals exact fz
def af:cw 193 aT:=W1 52 F mix aE bt (.cons Z48.af (.cons Z47.af (.cons Z49.af .nil))) Tryz.func193
end Z77
namespace Z78
def F (x0 x1:aB):aH:=(cond (Op.bytesLess x0.toList x1.toList) (ret ((-1):Int)) (cond (!((Op.bytesLess x0.toList x1.toList)||(x0.toList==x1.toList))) (ret (1:Int)) (ret (0:Int))))
def md (a0 a1:aB):Int:=(cond (Op.bytesLess a0.toList a1.toList) ((-1):Int) (cond (!((Op.bytesLess a0.toList a1.toList)||(a0.toList==a1.toList))) (1:Int) (0:Int)))
def gd (a0 a1:aB):Prop:=True
def R:=RR (p2 gd) (u2 md)
def aj {a0 a1}(h:gd a0 a1):R (a0,a1)=some (md a0 a1):=aN (a:=(a0,a1)) h
def aT:=CN [pS,pS] oI RT.dec R
def bt (a0)(a1)(hg:gd a0 a1):F a0 a1=ret (md a0 a1):=by
 unfold F md
 try simp only [SS]
 refine au ret (fun _=>rfl) (fun c1=>?_)
 refine au ret (fun _=>rfl) (fun _=>rfl)
def af:cw 198 aT:=W2 13 F mix aE bt .nil Tryz.func198
def vals (a b:aB):md a b=-1∨md a b=0∨md a b=1:=by
 unfold md
 cases Op.bytesLess a.toList b.toList
 ·cases (!(false||(a.toList==b.toList)))<;>simp
 ·simp
def lt (a b:aB):decide (md a b<0)=(md a b == -1):=by
 rcases vals a b with h | h | h<;>rw [h]<;>rfl
def gt (a b:aB):decide (md a b>0)=(md a b==1):=by
 rcases vals a b with h | h | h<;>rw [h]<;>rfl
def bl:∀a b:List UInt8,(Op.bytesLess a b||a==b)=!(Op.bytesLess b a)
 | [],[]=>by simp [Op.bytesLess]
 | [],_::_=>by simp [Op.bytesLess]
 | _::_,[]=>by simp [Op.bytesLess]
 | a::xs,b::ys=>by
  have ih:=bl xs ys
  simp only [Op.bytesLess]
  by_cases h1:a<b
  ·have h2:¬b<a:=UInt8.not_lt.2 (UInt8.le_of_lt h1)
   have h3:¬b=a:=fun h=>by subst h;exact UInt8.lt_irrefl _ h1
   simp [h1,h2,h3]
  ·by_cases h2:a=b
   ·subst h2
    have hr:¬a<a:=UInt8.lt_irrefl a
    simp only [hr,decide_false,Bool.false_or,beq_self_eq_true,Bool.true_and,List.cons_beq_cons]
    exact ih
   ·have h3:b<a:=by
     rcases UInt8.lt_or_lt_of_ne h2 with h | h
     ·exact (h1 h).elim
     ·exact h
    simp [h1,h2,h3,List.cons_beq_cons]
def swap (a b:aB):decide (md a b<=0)=(md b a != -1):=by
 unfold md
 rw [bl a.toList b.toList,bl b.toList a.toList]
 have h:=bl a.toList b.toList
 cases h1:Op.bytesLess a.toList b.toList<;>cases h2:Op.bytesLess b.toList a.toList<;>rw [h1,h2] at h<;>simp at h ⊢
end Z78
namespace Z79
inductive Pt where
 | p0 (a:aC) (b:Int)
def pid:Pt->Nat
 | .p0 ..=>2
def cg:Pt->List V
 | .p0 a b=>[.sl none 57 a,.int .i64 b]
def bZ:Pt->List aW
 | .p0 a b=>[]
def step (J:Pt->aH):Pt->aH
 | .p0 a b=>(cond (decide (b<(a.length:Int))) (m2 b (a.length:Int) (call (Z77.R (aU.at a (toNat b))) fun v1=>(cond (!v1) aY (cond (decide (b>0)) (ck (decide ((0:Int)<=(i64.wrap (b - 1)))) (ck (decide ((i64.wrap (b - 1))<(a.length:Int))) (m2 b (a.length:Int) (call (Z78.R ((aU.at a (toNat (i64.wrap (b - 1)))).bk,(aU.at a (toNat b)).bk)) fun v2=>(cond (v2 != (-1)) aY (J (.p0 a (i64.wrap (b+1))))))))) (J (.p0 a (i64.wrap (b+1)))))))) (ret ((decide ((a.length:Int)<=12)):Bool)))
def start (J:Pt->aH)(x0:aC):aH:=J (.p0 x0 0)
def live:Nat->Live:=fun i=>match i with | 2=>[(0,none),(3,none)] | _=>[]
def md (a0:List ah):Bool:=(dQ (S:=Unit) (β:=Bool) (fun (i1:Nat) (y1:ah) (s3:Unit)=>(cond (!(Z77.md y1)) (.inr (false:Bool)) (cond (decide ((i1:Int)>0)) (cond ((Z78.md ((a0.getD (toNat (i64.wrap ((i1:Int) - 1))) ah.zero).bk) (y1.bk)) != (-1)) (.inr (false:Bool)) (.inl ())) (.inl ())))) (fun (s3:Unit)=>((decide ((a0.length:Int)<=12)):Bool)) 0 a0 ())
def gd (a0:List ah):Prop:=(bL (2^21) (fun y:ah=>ah.Sm (2^21) y) a0)
def R:=RR gd md
def aj {a0}(h:gd a0):R (a0.map ah.row)=some (md a0):=aN (a:=a0) h
def aT:=CN [pL 57] oB RT.dec R
def bt (a0)(hg:gd a0):∃n,start (iter step n) (a0.map ah.row)=ret (md a0):=by
 unfold gd at hg
 have H0:=hg
 unfold start md
 try simp only [SS]
 have Bh2:a0.length<=maxLen:=(by
   have:=(H0).1
   try simp only [maxLen] at *
   omega)
 refine ex_eq (out:=ret) (cR (z:=ah.zero)) ?_
 refine dK (p:=Pt.p0 (a0.map ah.row) 0) fz ?_
 refine cj (pt:=fun (i1:Nat) (s3:Unit)=>Pt.p0 (a0.map ah.row) (i1:Int)) (s:=(():Unit)) (out:=ret) (fun _ _=>True) (fun J i1 s3 h2 hih2=>?_) (fun s3 hih2=>?_) trivial
 ·simp only [step,SS]
  have bb_:=Bh2
  simp only [maxLen] at bb_
  have:=(H0).1
  refine bz.yes (by apply decide_eq_true;omega) ?_
  refine bz.yes aI ?_
  refine bz.yes (aL h2) ?_
  refine cr (Z77.aj (bL.getD (z:=ah.zero) H0 h2)) ?_
  refine bz.bif (fun _=>bz.inr rfl) (fun c4=>?_)
  have dc4:=c4
  try simp only [DC] at dc4
  refine bz.bif (fun c5=>?_) (fun c5=>?_)
  ·have dc5:=c5
   try simp only [DC] at dc5
   refine bz.yes dt ?_
   refine bz.yes (have:=(H0).1;dt) ?_
   refine bz.yes aI ?_
   refine bz.yes (aL h2) ?_
   refine cr (Z78.aj trivial) ?_
   refine bz.bif (fun _=>bz.inr rfl) (fun c6=>?_)
   refine bz.inl trivial ?_
   rw [aG h2 Bh2]
   all_goals exact fz
  ·refine bz.inl trivial ?_
   rw [aG h2 Bh2]
   all_goals exact fz
 ·simp only [step,SS]
  have:=(H0).1
  refine dx (by apply decide_eq_false;omega) ?_
  refine ⟨0,?_⟩
  all_goals exact fz
def af:cw 203 aT:=L1 38 pid cg bZ live step start mix aE bt (.cons Z77.af (.cons Z78.af .nil)) Tryz.func203
end Z79
namespace Z80
inductive Pt where
 | p0 (a:aC) (b:Int) (c:aC)
def pid:Pt->Nat
 | .p0 ..=>3
def cg:Pt->List V
 | .p0 a b c=>[.sl none 5 a,.own 0,.int .i64 b]
def bZ:Pt->List aW
 | .p0 a b c=>[.row 3 c]
def step (J:Pt->aH):Pt->aH
 | .p0 a b c=>(cond (decide (b<(a.length:Int))) (m2 b (a.length:Int) (ck (eT (((c.length:Int)+1)*8)) (J (.p0 a (i64.wrap (b+1)) (c++[[L.int (i64.wrap (je a (toNat b)))]]))))) (ret (c:aC)))
def start (J:Pt->aH)(x0:aC):aH:=J (.p0 x0 0 [[L.int (x0.length:Int)]])
def live:Nat->Live:=fun i=>match i with | 3=>[(0,none),(3,none),(4,none)] | _=>[]
def md (a0:List Int):List Int:=([(a0.length:Int)]++a0.map (fun (y1:Int)=>(i64.wrap y1)))
def gd (a0:List Int):Prop:=(bL (2^38) (fun y:Int=>True) a0)
def R:=RR gd md
def aj {a0}(h:gd a0):R (a0.map bh)=some ((md a0).map bh):=aN (a:=a0) h
def aT:=CN [pL 5] (oL 3) RT.dec R
def bt (a0)(hg:gd a0):∃n,start (iter step n) (a0.map bh)=ret ((md a0).map bh):=by
 unfold gd at hg
 have H0:=hg
 unfold start md
 try simp only [SS]
 have Bh2:a0.length<=maxLen:=(by
   have:=(H0).1
   try simp only [maxLen] at *
   omega)
 refine ex_eq (out:=(fun b:List Int=>ret ((b.map bh):aC))) (lX (g:=fun (y1:Int)=>(i64.wrap y1)) (z:=0) (t:=fun (s3:List Int)=>s3) (s:=[(a0.length:Int)])) ?_
 refine dK (p:=Pt.p0 (a0.map bh) 0 ([(a0.length:Int)].map bh)) fz ?_
 refine cj (pt:=fun (i1:Nat) (s3:List Int)=>Pt.p0 (a0.map bh) (i1:Int) (s3.map bh)) (s:=([(a0.length:Int)]:List Int)) (out:=(fun b:List Int=>ret ((b.map bh):aC))) (fun (i1:Nat) (s3:List Int)=>s3.length<=[(a0.length:Int)].length+1*i1) (fun J i1 s3 h2 hih2=>?_) (fun s3 hih2=>?_) (by simp)
 ·simp only [step,SS]
  have gr_:=hih2
  try simp only [LN] at gr_
  have:=(H0).1
  have bb_:=Bh2
  simp only [maxLen] at bb_
  have:=(H0).1
  refine bz.yes (by apply decide_eq_true;omega) ?_
  refine bz.yes aI ?_
  refine bz.yes (aL h2) ?_
  refine bz.yes lm ?_
  refine bz.inl (by
    have g_:=hih2
    try simp only [LN] at g_ ⊢
    first | omega | (simp;done) | (simp;omega)) ?_
  rw [aG h2 Bh2]
  all_goals exact fz
 ·simp only [step,SS]
  have gr_:=hih2
  try simp only [LN] at gr_
  have:=(H0).1
  have:=(H0).1
  refine dx (by apply decide_eq_false;omega) ?_
  refine ⟨0,?_⟩
  all_goals exact fz
def af:cw 286 aT:=L1 23 pid cg bZ live step start mix aE bt .nil Tryz.func286
def len (a0:List Int):(md a0).length=1+a0.length:=by simp [md];omega
end Z80
namespace Z81
def F (x0:aB):aH:=(ck (decide ((x0.size:Int)<=140737488355328)) (call (Z80.R (ig x0)) fun v1=>ret (v1:aC)))
def md (a0:aB):List Int:=(Z80.md (iL a0))
def gd (a0:aB):Prop:=(a0.size<=(2^21))
def R:=RR gd md
def aj {a0}(h:gd a0):R a0=some ((md a0).map bh):=aN (a:=a0) h
def aT:=CN [pS] (oL 3) RT.dec R
def bt (a0)(hg:gd a0):F a0=ret ((md a0).map bh):=by
 unfold gd at hg
 have H0:=hg
 unfold F md
 try simp only [SS]
 refine ak (have:=H0;dt) ?_
 refine aZ ((Z80.md (iL a0)).map bh) (rq (Z80.aj (a0:=(iL a0)) ⟨(have:=gL a0;have:=H0;om),fun _ _=>trivial⟩)) ?_
 try simp only [SS]
 all_goals exact fz
def af:cw 263 aT:=W1 6 F mix aE bt (.cons Z80.af .nil) Tryz.func263
def len (a0:aB):(md a0).length=1+a0.size:=by simp [md,Z80.len,gL]
end Z81
namespace Z82
inductive Pt where
 | p0 (a:Int) (b:aU) (c:aC)
def pid:Pt->Nat
 | .p0 ..=>3
def cg:Pt->List V
 | .p0 a b c=>[.cQ 0 0,.own 1,.int .i64 a]
def bZ:Pt->List aW
 | .p0 a b c=>[.box [.str b.bk,.int .i64 b.bK,.int .i64 b.bW,.sl none 9 b.bI],.row 3 c]
def step (J:Pt->aH):Pt->aH
 | .p0 a b c=>(cond (decide (a<(b.bI.length:Int))) (m2 a (b.bI.length:Int) (call (Z81.R (pV b.bI (toNat a))) fun v1=>(ck (eT (((c.length:Int)+(v1.length:Int))*8)) (J (.p0 (i64.wrap (a+1)) b (c++v1)))))) (ret (c:aC)))
def start (J:Pt->aH)(x0:aU):aH:=(call (Z81.R x0.bk) fun v1=>(ck (eT (((v1.length:Int)+3)*8)) (J (.p0 0 x0 (v1++[[L.int x0.bK],[L.int x0.bW],[L.int (x0.bI.length:Int)]])))))
def live:Nat->Live:=fun i=>match i with | 3=>[(1,none),(3,none),(4,none)] | _=>[]
def md (a0:ah):List Int:=(((Z81.md a0.bk)++[a0.bK,a0.bW,(a0.bI.length:Int)])++a0.bI.flatMap (fun (y1:aB)=>(Z81.md y1)))
def gd (a0:ah):Prop:=(ah.Sm (2^21) a0)
def R:=RR gd md
def aj {a0}(h:gd a0):R (ah.r a0)=some ((md a0).map bh):=aN (a:=a0) h
def aT:=CN [.agg qX] (oL 3) RT.dec R
def bt (a0)(hg:gd a0):∃n,start (iter step n) (ah.r a0)=ret ((md a0).map bh):=by
 unfold gd at hg
 have H0:=hg
 unfold start md
 try simp only [SS]
 refine cx (Z81.aj H0.1) ?_
 try simp only [SS]
 refine dI (have:=Z81.len a0.bk;have:=H0.1;lm) ?_
 have Bh2:a0.bI.length<=maxLen:=(by
   have:=(H0.2).1
   try simp only [maxLen] at *
   omega)
 refine ex_eq (out:=(fun b:List Int=>ret ((b.map bh):aC))) (qE (g:=fun (y1:aB)=>(Z81.md y1)) (z:=⟨#[]⟩) (t:=fun (s3:List Int)=>s3) (s:=((Z81.md a0.bk)++[a0.bK,a0.bW,(a0.bI.length:Int)]))) ?_
 refine dK (p:=Pt.p0 0 (ah.r a0) (((Z81.md a0.bk)++[a0.bK,a0.bW,(a0.bI.length:Int)]).map bh)) fz ?_
 refine cj (pt:=fun (i1:Nat) (s3:List Int)=>Pt.p0 (i1:Int) (ah.r a0) (s3.map bh)) (s:=(((Z81.md a0.bk)++[a0.bK,a0.bW,(a0.bI.length:Int)]):List Int)) (out:=(fun b:List Int=>ret ((b.map bh):aC))) (fun (i1:Nat) (s3:List Int)=>s3.length<=4+a0.bk.size+i1*(2^21+1)) (fun J i1 s3 h2 hih2=>?_) (fun s3 hih2=>?_) (by
   have:=(H0.2).1
   have:=Z81.len a0.bk
   have:=H0.1
   try simp only [LN]
   try simp
   try omega)
 ·simp only [step,SS]
  have gr_:=hih2
  try simp only [LN] at gr_
  have:=H0.1
  have bb_:=Bh2
  simp only [maxLen] at bb_
  have:=(H0.2).1
  refine bz.yes (by apply decide_eq_true;omega) ?_
  refine bz.yes aI ?_
  refine bz.yes (aL h2) ?_
  refine cr (Z81.aj (bL.getD (z:=⟨#[]⟩) H0.2 h2)) ?_
  try simp only [SS]
  refine bz.yes (have:=Z81.len (a0.bI.getD i1 ⟨#[]⟩);have:=(bL.getD (z:=⟨#[]⟩) H0.2 h2);lm) ?_
  refine bz.inl (by
    have:=Z81.len (a0.bI.getD i1 ⟨#[]⟩)
    have:=(bL.getD (z:=⟨#[]⟩) H0.2 h2)
    have g_:=hih2
    try simp only [LN] at g_ ⊢
    first | omega | (simp;done) | (simp;omega)) ?_
  rw [aG h2 Bh2]
  all_goals exact fz
 ·simp only [step,SS]
  have gr_:=hih2
  try simp only [LN] at gr_
  have:=H0.1
  have:=(H0.2).1
  refine dx (by apply decide_eq_false;omega) ?_
  refine ⟨0,?_⟩
  all_goals exact fz
def af:cw 233 aT:=L1 33 pid cg bZ live step start mix aE bt (.cons Z81.af .nil) Tryz.func233
def gh {a0:ah}(hg:gd a0):bL (2^43 - 1) (fun y:Int=>True) (md a0):=by
 unfold gd at hg
 refine ⟨?_,fun _ _=>trivial⟩
 unfold md
 have h1:=lA (xs:=a0.bI) (g:=fun y=>Z81.md y) (n:=2^21+1) (fun x hx=>by rw [Z81.len];have:=hg.2.2 x hx;omega)
 have h2:=hg.1
 have h3:=hg.2.1
 have h4:=Z81.len a0.bk
 simp only [List.length_append,List.length_cons,List.length_nil]
 omega
end Z82
namespace Z83
def F (x0:aU):aH:=(call (Z82.R x0) fun v1=>(ck (eT (((1:Int)+(v1.length:Int))*8)) (call (Z56.R ([[L.int 227]]++v1)) fun v2=>ret (v2:Int))))
def md (a0:ah):Int:=((Z56.md ([227]++(Z82.md a0))):Int)
def gd (a0:ah):Prop:=(ah.Sm (2^21) a0)
def R:=RR gd md
def aj {a0}(h:gd a0):R (ah.r a0)=some (md a0):=aN (a:=a0) h
def aT:=CN [.agg qX] oI RT.dec R
def bt (a0)(hg:gd a0):F (ah.r a0)=ret (md a0):=by
 unfold gd at hg
 have H0:=hg
 unfold F md
 try simp only [SS]
 refine ct (Z82.aj H0) ?_
 try simp only [SS]
 refine ak (have:=((Z82.gh (a0:=a0) H0)).1;lm) ?_
 refine aZ (Z56.md ([227]++(Z82.md a0))) (rq (Z56.aj (a0:=([227]++(Z82.md a0))) ⟨(have:=((Z82.gh (a0:=a0) H0)).1;om),fun _ _=>trivial⟩)) ?_
 all_goals exact fz
def af:cw 192 aT:=W1 8 F mix aE bt (.cons Z82.af (.cons Z56.af .nil)) Tryz.func192
end Z83
namespace Z84
inductive Pt where
 | p0 (a:aC) (b:Int) (c:aC)
def pid:Pt->Nat
 | .p0 ..=>3
def cg:Pt->List V
 | .p0 a b c=>[.sl none 57 a,.own 0,.int .i64 b]
def bZ:Pt->List aW
 | .p0 a b c=>[.row 3 c]
def step (J:Pt->aH):Pt->aH
 | .p0 a b c=>(cond (decide (b<(a.length:Int))) (m2 b (a.length:Int) (call (Z83.R (aU.at a (toNat b))) fun v1=>(ck (eT (((c.length:Int)+1)*8)) (J (.p0 a (i64.wrap (b+1)) (c++[[L.int v1]])))))) (ret (c:aC)))
def start (J:Pt->aH)(x0:aC):aH:=J (.p0 x0 0 [])
def live:Nat->Live:=fun i=>match i with | 3=>[(0,none),(3,some 3),(4,none)] | _=>[]
def md (a0:List ah):List Int:=(a0.map (fun (y1:ah)=>(Z83.md y1)))
def gd (a0:List ah):Prop:=(bL (2^21) (fun y:ah=>ah.Sm (2^21) y) a0)
def R:=RR gd md
def aj {a0}(h:gd a0):R (a0.map ah.row)=some ((md a0).map bh):=aN (a:=a0) h
def aT:=CN [pL 57] (oL 3) RT.dec R
def bt (a0)(hg:gd a0):∃n,start (iter step n) (a0.map ah.row)=ret ((md a0).map bh):=by
 unfold gd at hg
 have H0:=hg
 unfold start md
 try simp only [SS]
 have Bh2:a0.length<=maxLen:=(by
   have:=(H0).1
   try simp only [maxLen] at *
   omega)
 refine ex_eq (out:=(fun b:List Int=>ret ((b.map bh):aC))) (mC (g:=fun (y1:ah)=>(Z83.md y1)) (z:=ah.zero) (t:=fun (s3:List Int)=>s3)) ?_
 refine dK (p:=Pt.p0 (a0.map ah.row) 0 ([].map bh)) fz ?_
 refine cj (pt:=fun (i1:Nat) (s3:List Int)=>Pt.p0 (a0.map ah.row) (i1:Int) (s3.map bh)) (s:=([]:List Int)) (out:=(fun b:List Int=>ret ((b.map bh):aC))) (fun (i1:Nat) (s3:List Int)=>s3.length<=([]:List Int).length+1*i1) (fun J i1 s3 h2 hih2=>?_) (fun s3 hih2=>?_) (by simp)
 ·simp only [step,SS]
  have gr_:=hih2
  try simp only [LN] at gr_
  have bb_:=Bh2
  simp only [maxLen] at bb_
  have:=(H0).1
  refine bz.yes (by apply decide_eq_true;omega) ?_
  refine bz.yes aI ?_
  refine bz.yes (aL h2) ?_
  refine cr (Z83.aj (bL.getD (z:=ah.zero) H0 h2)) ?_
  refine bz.yes lm ?_
  refine bz.inl (by
    have g_:=hih2
    try simp only [LN] at g_ ⊢
    first | omega | (simp;done) | (simp;omega)) ?_
  rw [aG h2 Bh2]
  all_goals exact fz
 ·simp only [step,SS]
  have gr_:=hih2
  try simp only [LN] at gr_
  have:=(H0).1
  refine dx (by apply decide_eq_false;omega) ?_
  refine ⟨0,?_⟩
  all_goals exact fz
def af:cw 202 aT:=L1 21 pid cg bZ live step start mix aE bt (.cons Z83.af .nil) Tryz.func202
def len (a0:List ah):(md a0).length=a0.length:=by simp [md]
end Z84
namespace Z85
def F (x0 x1:Int):aH:=(call (Z56.R [[L.int 229],[L.int x0],[L.int x1]]) fun v1=>ret (v1:Int))
def md (a0 a1:Int):Int:=((Z56.md [229,a0,a1]):Int)
def gd (a0 a1:Int):Prop:=True
def R:=RR (p2 gd) (u2 md)
def aj {a0 a1}(h:gd a0 a1):R (a0,a1)=some (md a0 a1):=aN (a:=(a0,a1)) h
def aT:=CN [pI,pI] oI RT.dec R
def bt (a0)(a1)(hg:gd a0 a1):F a0 a1=ret (md a0 a1):=by
 unfold F md
 try simp only [SS]
 refine aZ (Z56.md [229,a0,a1]) (rq (Z56.aj (a0:=[229,a0,a1]) ⟨(om),fun _ _=>trivial⟩)) ?_
 all_goals exact fz
def af:cw 231 aT:=W2 9 F mix aE bt (.cons Z56.af .nil) Tryz.func231
end Z85
namespace Z86
inductive Pt where
 | p0 (a:aC) (b:Int) (c:aC)
def pid:Pt->Nat
 | .p0 ..=>3
def cg:Pt->List V
 | .p0 a b c=>[.sl none 3 a,.own 0,.int .i64 b]
def bZ:Pt->List aW
 | .p0 a b c=>[.row 3 c]
def step (J:Pt->aH):Pt->aH
 | .p0 a b c=>(cond (decide (b<(a.length:Int))) (cond (decide ((i64.wrap (b+1))<(a.length:Int))) (m2 b (a.length:Int) (ck (decide ((0:Int)<=(i64.wrap (b+1)))) (ck (decide ((i64.wrap (b+1))<(a.length:Int))) (call (Z85.R ((je a (toNat b)),(je a (toNat (i64.wrap (b+1)))))) fun v1=>(ck (eT (((c.length:Int)+1)*8)) (J (.p0 a (i64.wrap (b+2)) (c++[[L.int v1]])))))))) (m2 b (a.length:Int) (ck (eT (((c.length:Int)+1)*8)) (J (.p0 a (i64.wrap (b+2)) (c++[[L.int (je a (toNat b))]])))))) (ret (c:aC)))
def start (J:Pt->aH)(x0:aC):aH:=J (.p0 x0 0 [])
def live:Nat->Live:=fun i=>match i with | 3=>[(0,none),(3,some 3),(4,none)] | _=>[]
def up:List Int->List Int
 | []=>[]
 | [a]=>[a]
 | a::b::r=>Z85.md a b::up r
def jX:∀l:List Int,(up l).length=(l.length+1) / 2
 | []=>by simp [up]
 | [_]=>by simp [up]
 | _::_::r=>by
  have:=jX r
  simp only [up,List.length_cons]
  omega
def md (a0:List Int):List Int:=up a0
def gd (a0:List Int):Prop:=bL (2^38) (fun y:Int=>True) a0
def R:=RR gd md
def aj {a0}(h:gd a0):R (a0.map bh)=some ((md a0).map bh):=aN (a:=a0) h
def aT:=CN [pL 3] (oL 3) RT.dec R
def bt (a0)(hg:gd a0):∃n,start (iter step n) (a0.map bh)=ret ((md a0).map bh):=by
 obtain ⟨H1,_⟩:=hg
 have key:∀(k i:Nat) (c:List Int),i+k=a0.length->c.length<=i->∃n,iter step n (Pt.p0 (a0.map bh) (i:Int) (c.map bh))=ret ((c++up (a0.drop i)).map bh:aC):=by
  intro k
  induction k using Nat.strongRecOn with
  | _ k ih=>
  intro i c hi hc
  match k,hi,ih with
  | 0,hi,_=>
   refine ⟨1,?_⟩
   show step (iter step 0) (Pt.p0 _ _ _)=_
   simp only [step,List.length_map]
   refine cN (decide_eq_false (by omega)) ?_
   rw [List.drop_eq_nil_of_le (by omega)]
   simp only [up,List.append_nil]
  | 1,hi,ih=>
   obtain ⟨n,hn⟩:=ih 0 (by omega) (i+1) (c++[a0.getD i 0]) (by omega) (by simp;omega)
   have h2:∃n,iter step n (Pt.p0 (a0.map bh) (i64.wrap ((i:Int)+2)) ((c++[a0.getD i 0]).map bh))=ret ((c++[a0.getD i 0]).map bh:aC):=by
    refine ⟨1,?_⟩
    show step (iter step 0) (Pt.p0 _ _ _)=_
    simp only [step,List.length_map]
    refine cN (decide_eq_false ?_) rfl
    rw [Go.IntWalk.i64_in _ (by omega)];omega
   obtain ⟨n,hn⟩:=h2
   refine ⟨n+1,?_⟩
   show step (iter step n) (Pt.p0 _ _ _)=_
   simp only [step,List.length_map,cB,gN]
   refine ak (decide_eq_true (by omega)) (cN (decide_eq_false ?_) (ak (decide_eq_true (by omega)) (ak (decide_eq_true (by omega)) (ak (iJ (by omega)) ?_))))
   ·rw [Go.IntWalk.i64_in _ (by omega)];omega
   ·rw [List.map_append] at hn
    refine Eq.trans hn ?_
    rw [List.drop_eq_getElem_cons (by omega),List.drop_eq_nil_of_le (by omega),eK (by omega:i<a0.length)]
    simp only [up,List.map_append]
  | k+2,hi,ih=>
   obtain ⟨n,hn⟩:=ih k (by omega) (i+2) (c++[Z85.md (a0.getD i 0) (a0.getD (i+1) 0)]) (by omega) (by simp;omega)
   refine ⟨n+1,?_⟩
   show step (iter step n) (Pt.p0 _ _ _)=_
   have w1:i64.wrap ((i:Int)+1)=((i+1:Nat):Int):=by rw [Go.IntWalk.i64_in _ (by omega)];omega
   have w2:i64.wrap ((i:Int)+2)=((i+2:Nat):Int):=by rw [Go.IntWalk.i64_in _ (by omega)];omega
   simp only [step,List.length_map,w1,w2,cB,gN]
   refine ak (decide_eq_true (by omega)) (ak (decide_eq_true (by omega)) (ak (decide_eq_true (by omega)) (ak (decide_eq_true (by omega)) (ak (decide_eq_true (by omega)) (ak (decide_eq_true (by omega)) ?_)))))
   refine aZ (Z85.md (a0.getD i 0) (a0.getD (i+1) 0)) (Z85.aj trivial) (ak (iJ (by omega)) ?_)
   rw [List.map_append] at hn
   refine Eq.trans hn ?_
   rw [List.drop_eq_getElem_cons (by omega:i<a0.length),List.drop_eq_getElem_cons (by omega:i+1<a0.length),eK (by omega:i<a0.length),eK (by omega:i+1<a0.length)]
   simp only [up,List.append_assoc,List.cons_append,List.nil_append]
 have:=key a0.length 0 [] (by omega) (by simp)
 unfold start md
 simpa using this
def af:cw 236 aT:=L1 38 pid cg bZ live step start mix aE bt (.cons Z85.af .nil) Tryz.func236
end Z86
namespace Z87
inductive Pt where
 | p0 (a:aC)
 | p1 (a:aC)
def pid:Pt->Nat
 | .p0 ..=>4
 | .p1 ..=>4
def cg:Pt->List V
 | .p0 a=>[.sl none 3 a]
 | .p1 a=>[.own 0]
def bZ:Pt->List aW
 | .p0 a=>[]
 | .p1 a=>[.row 3 a]
def step (J:Pt->aH):Pt->aH
 | .p0 a=>(cond (decide ((a.length:Int)>1)) (call (Z86.R a) fun v1=>J (.p1 v1)) (ck (decide ((0:Int)<(a.length:Int))) (ret ((je a 0):Int))))
 | .p1 a=>(cond (decide ((a.length:Int)>1)) (call (Z86.R a) fun v1=>J (.p1 v1)) (ck (decide ((0:Int)<(a.length:Int))) (ret ((je a 0):Int))))
def start (J:Pt->aH)(x0:aC):aH:=(cond ((x0.length:Int)==0) (call (Z56.R [[L.int 229]]) fun v1=>ret (v1:Int)) (J (.p0 x0)))
def live:Nat->Live:=fun i=>match i with | 4=>[(3,none)] | _=>[]
def top:Nat->List Int->Int
 | 0,l=>l.getD 0 0
 | k+1,l=>if l.length>1 then top k (Z86.up l) else l.getD 0 0
def md (a0:List Int):Int:=(if a0.length=0 then Z56.md [229] else top a0.length a0)
def gd (a0:List Int):Prop:=bL (2^38) (fun y:Int=>True) a0
def R:=RR gd md
def aj {a0}(h:gd a0):R (a0.map bh)=some (md a0):=aN (a:=a0) h
def aT:=CN [pL 3] oI RT.dec R
def bt (a0)(hg:gd a0):∃n,start (iter step n) (a0.map bh)=ret (md a0):=by
 have one:∀(l:List Int) (r:Int) (n:Nat),bL (2^38) (fun y:Int=>True) l->0<l.length->(if l.length>1 then iter step n (Pt.p1 ((Z86.up l).map bh))=ret r else ret (l.getD 0 0:Int)=ret r)->step (iter step n) (Pt.p0 (l.map bh))=ret r/\step (iter step n) (Pt.p1 (l.map bh))=ret r:=by
  intro l r n hl hp h
  simp only [step,List.length_map,gN]
  by_cases h1:l.length>1
  ·rw [if_pos h1] at h
   have hx:∀y:aH,(cond (decide ((l.length:Int)>1)) (call (Z86.R (l.map bh)) (fun v1=>iter step n (Pt.p1 v1))) y)=ret r:=fun y=>
    ak (decide_eq_true (by omega)) (aZ ((Z86.up l).map bh) (Z86.aj hl) h)
   exact ⟨hx _,hx _⟩
  ·rw [if_neg h1] at h
   have hx:∀y:aH,(cond (decide ((l.length:Int)>1)) y (cond (decide ((0:Int)<(l.length:Int))) (ret (l.getD 0 0:Int)) none))=ret r:=fun y=>
    cN (decide_eq_false (by omega)) (ak (decide_eq_true (by omega)) h)
   exact ⟨hx _,hx _⟩
 have key:∀(k:Nat) (l:List Int),bL (2^38) (fun y:Int=>True) l->0<l.length->l.length<=k+1->∃n,step (iter step n) (Pt.p0 (l.map bh))=ret (top k l)/\step (iter step n) (Pt.p1 (l.map bh))=ret (top k l):=by
  intro k
  induction k with
  | zero=>
   intro l hl hp hk
   exact ⟨0,one l _ 0 hl hp (by rw [if_neg (by omega)];rfl)⟩
  | succ k ih=>
   intro l hl hp hk
   by_cases h1:l.length>1
   ·have hu:=Z86.jX l
    have hl1:=hl.1
    obtain ⟨n,_,hn⟩:=ih (Z86.up l) ⟨by omega,fun _ _=>trivial⟩ (by omega) (by omega)
    refine ⟨n+1,one l _ (n+1) hl hp ?_⟩
    rw [if_pos h1]
    refine Eq.trans hn ?_
    unfold top
    rw [if_pos h1]
    cases k<;>rfl
   ·refine ⟨0,one l _ 0 hl hp ?_⟩
    rw [if_neg h1]
    unfold top
    rw [if_neg h1]
 unfold md
 unfold start
 simp only [List.length_map]
 by_cases h0:a0.length=0
 ·have e:((a0.length:Int)==0)=true:=by simpa using List.length_eq_zero_iff.1 h0
  refine ⟨0,?_⟩
  rw [e]
  refine aZ (Z56.md [229]) (Z56.aj (a0:=[229]) ⟨by decide,fun _ _=>trivial⟩) ?_
  rw [if_pos h0]
 ·have e:((a0.length:Int)==0)=false:=beq_eq_false_iff_ne.2 (by omega)
  obtain ⟨n,hn,_⟩:=key a0.length a0 hg (by omega) (by omega)
  refine ⟨n+1,?_⟩
  rw [e,if_neg h0]
  exact hn
def af:cw 235 aT:=L1 18 pid cg bZ live step start mix aE bt (.cons Z56.af (.cons Z86.af .nil)) Tryz.func235
end Z87
namespace Z88
def F (x0 x1:Int):aH:=(call (Z56.R [[L.int 231],[L.int x0],[L.int x1]]) fun v1=>ret (v1:Int))
def md (a0 a1:Int):Int:=((Z56.md [231,a0,a1]):Int)
def gd (a0 a1:Int):Prop:=True
def R:=RR (p2 gd) (u2 md)
def aj {a0 a1}(h:gd a0 a1):R (a0,a1)=some (md a0 a1):=aN (a:=(a0,a1)) h
def aT:=CN [pI,pI] oI RT.dec R
def bt (a0)(a1)(hg:gd a0 a1):F a0 a1=ret (md a0 a1):=by
 unfold F md
 try simp only [SS]
 refine aZ (Z56.md [231,a0,a1]) (rq (Z56.aj (a0:=[231,a0,a1]) ⟨(om),fun _ _=>trivial⟩)) ?_
 all_goals exact fz
def af:cw 194 aT:=W2 9 F mix aE bt (.cons Z56.af .nil) Tryz.func194
end Z88
namespace Z89
def F (x0:aC):aH:=(call (Z84.R x0) fun v1=>(call (Z87.R v1) fun v2=>(call (Z88.R ((x0.length:Int),v2)) fun v3=>ret (v3:Int))))
def md (a0:List ah):Int:=((Z88.md (a0.length:Int) (Z87.md (Z84.md a0))):Int)
def gd (a0:List ah):Prop:=(bL (2^21) (fun y:ah=>ah.Sm (2^21) y) a0)
def R:=RR gd md
def aj {a0}(h:gd a0):R (a0.map ah.row)=some (md a0):=aN (a:=a0) h
def aT:=CN [pL 57] oI RT.dec R
def bt (a0)(hg:gd a0):F (a0.map ah.row)=ret (md a0):=by
 unfold gd at hg
 have H0:=hg
 unfold F md
 try simp only [SS]
 refine ct (Z84.aj H0) ?_
 try simp only [SS]
 refine ct (Z87.aj ⟨(have:=Z84.len a0;have:=(H0).1;om),fun _ _=>trivial⟩) ?_
 refine ct (Z88.aj trivial) ?_
 all_goals exact fz
def af:cw 197 aT:=W1 9 F mix aE bt (.cons Z84.af (.cons Z87.af (.cons Z88.af .nil))) Tryz.func197
end Z89
namespace Z90
def F (x0:Int)(x1:aC):aH:=(call (Z79.R x1) fun v1=>(cond v1 (call (Z89.R x1) fun v2=>ret ((v2==x0):Bool)) aY))
def md (a0:Int)(a1:List ah):Bool:=(cond (Z79.md a1) (((Z89.md a1)==a0):Bool) (false:Bool))
def gd (a0:Int)(a1:List ah):Prop:=(bL (2^21) (fun y:ah=>ah.Sm (2^21) y) a1)
def R:=RR (p2 gd) (u2 md)
def aj {a0 a1}(h:gd a0 a1):R (a0,(a1.map ah.row))=some (md a0 a1):=aN (a:=(a0,a1)) h
def aT:=CN [pI,pL 57] oB RT.dec R
def bt (a0)(a1)(hg:gd a0 a1):F a0 (a1.map ah.row)=ret (md a0 a1):=by
 unfold gd at hg
 have H1:=hg
 unfold F md
 try simp only [SS]
 refine ct (Z79.aj H1) ?_
 refine au ret (fun c1=>?_) (fun _=>rfl)
 refine ct (Z89.aj H1) ?_
 all_goals exact fz
def af:cw 200 aT:=W2 13 F mix aE bt (.cons Z79.af (.cons Z89.af .nil)) Tryz.func200
end Z90
namespace Z91
def F (x0:dL):aH:=(call (Z76.R x0.aS) fun v1=>(cond v1.2 (cond (v1.1.cq==(x0.bM.length:Int)) (call (Z90.R (v1.1.cW,x0.bM)) fun v2=>ret (v2:Bool)) aY) aY))
def md (a0:aK):Bool:=(cond ((Z76.md a0.aS).2) (cond ((Z76.md a0.aS).1.cq==(a0.bM.length:Int)) ((Z90.md ((Z76.md a0.aS).1.cW) a0.bM):Bool) (false:Bool)) (false:Bool))
def gd (a0:aK):Prop:=(aK.Sm (2^21) a0)
def R:=RR gd md
def aj {a0}(h:gd a0):R (aK.r a0)=some (md a0):=aN (a:=a0) h
def aT:=CN [.agg sG] oB RT.dec R
def bt (a0)(hg:gd a0):F (aK.r a0)=ret (md a0):=by
 unfold gd at hg
 have H0:=hg
 unfold F md
 try simp only [SS]
 refine ct (Z76.aj H0.1) ?_
 try simp only [SS]
 refine au ret (fun c1=>?_) (fun _=>rfl)
 refine au ret (fun c2=>?_) (fun _=>rfl)
 refine ct (Z90.aj H0.2) ?_
 all_goals exact fz
def af:cw 163 aT:=W1 27 F mix aE bt (.cons Z76.af (.cons Z90.af .nil)) Tryz.func163
end Z91
namespace Z92
def F (x0:dL):aH:=(call (Z76.R x0.aS) fun v1=>(call (Z91.R x0) fun v2=>(cond (!v2) (ret ((-1):Int)) (ret (v1.1.bC:Int)))))
def md (a0:aK):Int:=(cond (!(Z91.md a0)) ((-1):Int) ((Z76.md a0.aS).1.bC:Int))
def gd (a0:aK):Prop:=(aK.Sm (2^21) a0)
def R:=RR gd md
def aj {a0}(h:gd a0):R (aK.r a0)=some (md a0):=aN (a:=a0) h
def aT:=CN [.agg sG] oI RT.dec R
def bt (a0)(hg:gd a0):F (aK.r a0)=ret (md a0):=by
 unfold gd at hg
 have H0:=hg
 unfold F md
 try simp only [SS]
 refine ct (Z76.aj H0.1) ?_
 try simp only [SS]
 refine ct (Z91.aj H0) ?_
 refine au ret (fun _=>rfl) (fun c1=>?_)
 all_goals exact fz
def af:cw 162 aT:=W1 16 F mix aE bt (.cons Z76.af (.cons Z91.af .nil)) Tryz.func162
end Z92
namespace Z93
inductive Pt where
 | p0 (a b:Int) (c:cL)
def pid:Pt->Nat
 | .p0 ..=>2
def cg:Pt->List V
 | .p0 a b c=>[.int .i64 a,.cQ 0 0,.int .i64 b]
def bZ:Pt->List aW
 | .p0 a b c=>[.box [.sl none 155 c.bG,.int .i64 c.gI]]
def step (J:Pt->aH):Pt->aH
 | .p0 a b c=>(cond (decide (b<(c.bG.length:Int))) (m2 b (c.bG.length:Int) (call (Z92.R (dL.at c.bG (toNat b))) fun v1=>(cond (v1==a) (cond (decide (a>=0)) (ret (b:Int)) (J (.p0 a (i64.wrap (b+1)) c))) (J (.p0 a (i64.wrap (b+1)) c))))) (ret ((-1):Int)))
def start (J:Pt->aH)(x0:cL)(x1:Int):aH:=J (.p0 x1 0 x0)
def live:Nat->Live:=fun i=>match i with | 2=>[(1,none),(2,none),(5,none)] | _=>[]
def md (a0:av)(a1:Int):Int:=(dQ (S:=Unit) (β:=Int) (fun (i1:Nat) (y1:aK) (s3:Unit)=>(cond ((Z92.md y1)==a1) (cond (decide (a1>=0)) (.inr ((i1:Int):Int)) (.inl ())) (.inl ()))) (fun (s3:Unit)=>((-1):Int)) 0 a0.bG ())
def gd (a0:av)(a1:Int):Prop:=(av.Sm (2^21) a0)
def R:=RR (p2 gd) (u2 md)
def aj {a0 a1}(h:gd a0 a1):R ((av.r a0),a1)=some (md a0 a1):=aN (a:=(a0,a1)) h
def aT:=CN [.agg Ba,pI] oI RT.dec R
def bt (a0)(a1)(hg:gd a0 a1):∃n,start (iter step n) (av.r a0) a1=ret (md a0 a1):=by
 unfold gd at hg
 have H0:=hg
 unfold start md
 try simp only [SS]
 have Bh2:a0.bG.length<=maxLen:=(by
   have:=(H0).1
   try simp only [maxLen] at *
   omega)
 refine ex_eq (out:=ret) (cR (z:=aK.zero)) ?_
 refine dK (p:=Pt.p0 a1 0 (av.r a0)) fz ?_
 refine cj (pt:=fun (i1:Nat) (s3:Unit)=>Pt.p0 a1 (i1:Int) (av.r a0)) (s:=(():Unit)) (out:=ret) (fun _ _=>True) (fun J i1 s3 h2 hih2=>?_) (fun s3 hih2=>?_) trivial
 ·simp only [step,SS]
  have bb_:=Bh2
  simp only [maxLen] at bb_
  have:=(H0).1
  refine bz.yes (by apply decide_eq_true;omega) ?_
  refine bz.yes aI ?_
  refine bz.yes (aL h2) ?_
  refine cr (Z92.aj (bL.getD (z:=aK.zero) H0 h2)) ?_
  refine bz.bif (fun c4=>?_) (fun c4=>?_)
  ·refine bz.bif (fun c5=>?_) (fun c5=>?_)
   ·refine bz.inr ?_
    all_goals exact fz
   ·refine bz.inl trivial ?_
    rw [aG h2 Bh2]
    all_goals exact fz
  ·refine bz.inl trivial ?_
   rw [aG h2 Bh2]
   all_goals exact fz
 ·simp only [step,SS]
  have:=(H0).1
  refine dx (by apply decide_eq_false;omega) ?_
  refine ⟨0,?_⟩
  all_goals exact fz
def af:cw 129 aT:=L2 26 pid cg bZ live step start mix aE bt (.cons Z92.af .nil) Tryz.func129
def fa (a0:av)(a1:Int):-1<=md a0 a1/\md a0 a1<(a0.bG.length:Int):=by
 unfold md
 refine fD ?_ _ _
 all_goals
  intro i x s b h
  revert h
  simp only [Bool.cond_eq_ite]
  repeat' split
  all_goals (intro h;first | (cases h;rfl) | cases h)
end Z93
namespace Z94
inductive Pt where
 | p0 (a:aC) (b:aB) (c:Int)
def pid:Pt->Nat
 | .p0 ..=>2
def cg:Pt->List V
 | .p0 a b c=>[.sl none 57 a,.str b,.int .i64 c]
def bZ:Pt->List aW
 | .p0 a b c=>[]
def step (J:Pt->aH):Pt->aH
 | .p0 a b c=>(cond (decide (c<(a.length:Int))) (m2 c (a.length:Int) (cond ((aU.at a (toNat c)).bk==b) (ret (c:Int)) (J (.p0 a b (i64.wrap (c+1)))))) (ret ((-1):Int)))
def start (J:Pt->aH)(x0:aC)(x1:aB):aH:=J (.p0 x0 x1 0)
def live:Nat->Live:=fun i=>match i with | 2=>[(0,none),(1,none),(5,none)] | _=>[]
def md (a0:List ah)(a1:aB):Int:=(dQ (S:=Unit) (β:=Int) (fun (i1:Nat) (y1:ah) (s3:Unit)=>(cond (y1.bk==a1) (.inr ((i1:Int):Int)) (.inl ()))) (fun (s3:Unit)=>((-1):Int)) 0 a0 ())
def gd (a0:List ah)(a1:aB):Prop:=(bL (2^21) (fun y:ah=>ah.Sm (2^21) y) a0)
def R:=RR (p2 gd) (u2 md)
def aj {a0 a1}(h:gd a0 a1):R ((a0.map ah.row),a1)=some (md a0 a1):=aN (a:=(a0,a1)) h
def aT:=CN [pL 57,pS] oI RT.dec R
def bt (a0)(a1)(hg:gd a0 a1):∃n,start (iter step n) (a0.map ah.row) a1=ret (md a0 a1):=by
 unfold gd at hg
 have H0:=hg
 unfold start md
 try simp only [SS]
 have Bh2:a0.length<=maxLen:=(by
   have:=(H0).1
   try simp only [maxLen] at *
   omega)
 refine ex_eq (out:=ret) (cR (z:=ah.zero)) ?_
 refine dK (p:=Pt.p0 (a0.map ah.row) a1 0) fz ?_
 refine cj (pt:=fun (i1:Nat) (s3:Unit)=>Pt.p0 (a0.map ah.row) a1 (i1:Int)) (s:=(():Unit)) (out:=ret) (fun _ _=>True) (fun J i1 s3 h2 hih2=>?_) (fun s3 hih2=>?_) trivial
 ·simp only [step,SS]
  have bb_:=Bh2
  simp only [maxLen] at bb_
  have:=(H0).1
  refine bz.yes (by apply decide_eq_true;omega) ?_
  refine bz.yes aI ?_
  refine bz.yes (aL h2) ?_
  refine bz.bif (fun c4=>?_) (fun c4=>?_)
  ·refine bz.inr ?_
   all_goals exact fz
  ·refine bz.inl trivial ?_
   rw [aG h2 Bh2]
   all_goals exact fz
 ·simp only [step,SS]
  have:=(H0).1
  refine dx (by apply decide_eq_false;omega) ?_
  refine ⟨0,?_⟩
  all_goals exact fz
def af:cw 164 aT:=L2 20 pid cg bZ live step start mix aE bt .nil Tryz.func164
def fa (a0:List ah)(a1:aB):-1<=md a0 a1/\md a0 a1<(a0.length:Int):=by
 unfold md
 refine fD ?_ _ _
 all_goals
  intro i x s b h
  revert h
  simp only [Bool.cond_eq_ite]
  repeat' split
  all_goals (intro h;first | (cases h;rfl) | cases h)
end Z94
namespace Z95
def F (x0:aU):aH:=(call (Z50.R x0.bI) fun v1=>ret ((⟨x0.bk,x0.bK,x0.bW,v1⟩:aU):aU))
def md (a0:ah):ah:=a0
def gd (a0:ah):Prop:=(ah.Sm (2^21) a0)
def R:=RR gd md
def aj {a0}(h:gd a0):R (ah.r a0)=some (ah.r a0):=aN (a:=a0) h
def aT:=CN [.agg qX] (.agg f57) RT.dec R
def bt (a0)(hg:gd a0):F (ah.r a0)=ret (ah.r (md a0)):=by
 unfold gd at hg
 have H0:=hg
 unfold F md
 try simp only [SS]
 refine ct (Z50.aj H0.2) ?_
 try simp only [SS]
 all_goals exact fz
def af:cw 105 aT:=W1 13 F mix aE bt (.cons Z50.af .nil) Tryz.func105
end Z95
namespace Z96
inductive Pt where
 | p0 (a:Int) (b c:aC)
 | p1 (a:Int) (b c:aC)
def pid:Pt->Nat
 | .p0 ..=>5
 | .p1 ..=>5
def cg:Pt->List V
 | .p0 a b c=>[.int .i64 a,.own 0,.sl none 3 b]
 | .p1 a b c=>[.int .i64 a,.own 0,.own 1]
def bZ:Pt->List aW
 | .p0 a b c=>[.row 3 c]
 | .p1 a b c=>[.row 3 b,.row 3 c]
def step (J:Pt->aH):Pt->aH
 | .p0 a b c=>(cond (decide ((b.length:Int)>1)) (cond (decide ((i64.wrap ((i64.wrap (a+1)) - (i64.wrap (2*(Int.tmod a 2)))))<(b.length:Int))) (ck (decide ((0:Int)<=(i64.wrap ((i64.wrap (a+1)) - (i64.wrap (2*(Int.tmod a 2))))))) (ck (decide ((i64.wrap ((i64.wrap (a+1)) - (i64.wrap (2*(Int.tmod a 2)))))<(b.length:Int))) (ck (eT (((c.length:Int)+1)*8)) (call (Z86.R b) fun v1=>J (.p1 (i64.wrap (Int.tdiv a 2)) (c++[[L.int (je b (toNat (i64.wrap ((i64.wrap (a+1)) - (i64.wrap (2*(Int.tmod a 2)))))))]]) v1))))) (call (Z86.R b) fun v2=>J (.p1 (i64.wrap (Int.tdiv a 2)) c v2))) (ret (c:aC)))
 | .p1 a b c=>(cond (decide ((c.length:Int)>1)) (cond (decide ((i64.wrap ((i64.wrap (a+1)) - (i64.wrap (2*(Int.tmod a 2)))))<(c.length:Int))) (ck (decide ((0:Int)<=(i64.wrap ((i64.wrap (a+1)) - (i64.wrap (2*(Int.tmod a 2))))))) (ck (decide ((i64.wrap ((i64.wrap (a+1)) - (i64.wrap (2*(Int.tmod a 2)))))<(c.length:Int))) (ck (eT (((b.length:Int)+1)*8)) (call (Z86.R c) fun v1=>J (.p1 (i64.wrap (Int.tdiv a 2)) (b++[[L.int (je c (toNat (i64.wrap ((i64.wrap (a+1)) - (i64.wrap (2*(Int.tmod a 2)))))))]]) v1))))) (call (Z86.R c) fun v2=>J (.p1 (i64.wrap (Int.tdiv a 2)) b v2))) (ret (b:aC)))
def start (J:Pt->aH)(x0:aC)(x1:Int):aH:=(call (Z47.R (x1,0,(i64.wrap ((x0.length:Int) - 1)))) fun v1=>(cond (!v1) (ret ([]:aC)) (J (.p0 x1 x0 []))))
def live:Nat->Live:=fun i=>match i with | 5=>[(1,none),(5,some 3),(6,none)] | _=>[]
def vh (i:Nat):Nat:=if i % 2=0 then i+1 else i - 1
def vi (i:Nat)(l c:List Int):List Int:=if vh i<l.length then c++[l.getD (vh i) 0] else c
def yT:Nat->Nat->List Int->List Int->List Int
 | 0,_,_,c=>c
 | k+1,i,l,c=>if l.length>1 then yT k (i / 2) (Z86.up l) (vi i l c) else c
def tg:∀(k i:Nat) (l c:List Int),(yT k i l c).length<=c.length+k
 | 0,_,_,c=>Nat.le_refl _
 | k+1,i,l,c=>by
  unfold yT
  by_cases h:l.length>1
  ·rw [if_pos h]
   have:=tg k (i / 2) (Z86.up l) (vi i l c)
   have h2:(vi i l c).length<=c.length+1:=by unfold vi;split<;>simp
   omega
  ·rw [if_neg h];omega
def half (i:Nat)(h:i<2^40):i64.wrap (Int.tdiv (i:Int) 2)=((i / 2:Nat):Int):=by
 rw [show Int.tdiv (i:Int) 2=((i / 2:Nat):Int) from rfl,wi _ (by omega)]
def As (i:Nat)(h:i<2^40):i64.wrap (i64.wrap ((i:Int)+1) - i64.wrap (2*Int.tmod (i:Int) 2))=((vh i:Nat):Int):=by
 rw [show Int.tmod (i:Int) 2=((i % 2:Nat):Int) from rfl,wi ((i:Int)+1) (by omega),wi (2*((i % 2:Nat):Int)) (by omega),wi _ (by omega)]
 unfold vh
 split<;>omega
def md (a0:List Int)(a1:Int):List Int:=bif Z47.md a1 0 (i64.wrap ((a0.length:Int) - 1)) then yT a0.length a1.toNat a0 [] else []
def gd (a0:List Int)(a1:Int):Prop:=bL (2^38) (fun y:Int=>True) a0
def R:=RR (p2 gd) (u2 md)
def aj {a0 a1}(h:gd a0 a1):R ((a0.map bh),a1)=some ((md a0 a1).map bh):=aN (a:=(a0,a1)) h
def aT:=CN [pL 3,pI] (oL 3) RT.dec R
def bt (a0)(a1)(hg:gd a0 a1):∃n,start (iter step n) (a0.map bh) a1=ret ((md a0 a1).map bh):=by
 have one:∀(i:Nat) (l c r:List Int) (n:Nat),bL (2^38) (fun y:Int=>True) l->i<2^40->c.length<2^40->(if l.length>1 then iter step n (Pt.p1 ((i / 2:Nat):Int) ((vi i l c).map bh) ((Z86.up l).map bh))=ret (r.map bh) else c=r)->
   step (iter step n) (Pt.p0 (i:Int) (l.map bh) (c.map bh))=ret (r.map bh)/\step (iter step n) (Pt.p1 (i:Int) (c.map bh) (l.map bh))=ret (r.map bh):=by
  intro i l c r n hl hi hc h
  have hs:=As i hi
  have hd:=half i hi
  refine ⟨?_,?_⟩
  all_goals
   simp only [step,MM,List.length_map,gN,hs,hd,cB]
   by_cases h1:l.length>1
   ·rw [if_pos h1] at h
    rw [decide_eq_true (show (l.length:Int)>1 by omega),bf]
    by_cases h2:vh i<l.length
    ·rw [vi,if_pos h2,List.map_append] at h
     rw [decide_eq_true (show ((vh i:Nat):Int)<(l.length:Int) by omega),bf,decide_eq_true (show (0:Int)<=((vh i:Nat):Int) by omega),bf,bf,iJ (by omega),bf]
     exact aZ ((Z86.up l).map bh) (Z86.aj hl) h
    ·rw [vi,if_neg h2] at h
     rw [decide_eq_false (show ¬((vh i:Nat):Int)<(l.length:Int) by omega),bq]
     exact aZ ((Z86.up l).map bh) (Z86.aj hl) h
   ·rw [if_neg h1] at h
    rw [decide_eq_false (show ¬(l.length:Int)>1 by omega),bq,h]
 have key:∀(k i:Nat) (l c:List Int),bL (2^38) (fun y:Int=>True) l->l.length<=k->i<2^40->c.length+k<2^40->
   ∃n,step (iter step n) (Pt.p0 (i:Int) (l.map bh) (c.map bh))=ret ((yT k i l c).map bh)/\step (iter step n) (Pt.p1 (i:Int) (c.map bh) (l.map bh))=ret ((yT k i l c).map bh):=by
  intro k
  induction k with
  | zero=>intro i l c hl hk hi hc;exact ⟨0,one i l c _ 0 hl hi (by omega) (by rw [if_neg (by omega)];rfl)⟩
  | succ k ih=>
   intro i l c hl hk hi hc
   unfold yT
   by_cases h1:l.length>1
   ·have hu:=Z86.jX l
    have hl1:=hl.1
    have h2:(vi i l c).length<=c.length+1:=by unfold vi;split<;>simp
    obtain ⟨n,_,hn⟩:=ih (i / 2) (Z86.up l) (vi i l c) ⟨by omega,fun _ _=>trivial⟩ (by omega) (by omega) (by omega)
    rw [if_pos h1]
    exact ⟨n+1,one i l c _ (n+1) hl hi (by omega) (by rw [if_pos h1];exact hn)⟩
   ·rw [if_neg h1]
    exact ⟨0,one i l c _ 0 hl hi (by omega) (by rw [if_neg h1])⟩
 unfold gd at hg
 unfold start md
 simp only [List.length_map]
 have hlen:=hg.1
 cases h:Z47.md a1 0 (i64.wrap ((a0.length:Int) - 1))
 ·exact ⟨0,aZ false (by rw [<-h];exact Z47.aj trivial) rfl⟩
 ·have hh:=h
  rw [wi _ (by omega)] at hh
  simp [Z47.md] at hh
  obtain ⟨i,rfl⟩:=Int.eq_ofNat_of_zero_le hh.1
  obtain ⟨n,hn,_⟩:=key a0.length i a0 [] hg (Nat.le_refl _) (by omega) (by simp only [List.length_nil];omega)
  exact ⟨n+1,aZ true (by rw [<-h];exact Z47.aj trivial) hn⟩
def af:cw 201 aT:=L2 42 pid cg bZ live step start mix aE bt (.cons Z47.af (.cons Z86.af .nil)) Tryz.func201
def len (a0:List Int)(a1:Int):(md a0 a1).length<=a0.length:=by
 unfold md
 cases Z47.md _ 0 _
 ·exact zero_le _
 ·exact le_trans (tg _ _ _ _) (by simp)
end Z96
namespace Z97
def F (x0:aC)(x1:aB):aH:=(call (Z94.R (x0,x1)) fun v1=>(cond (decide (v1<0)) (ret (((⟨0,[]⟩:bS),false):bS×Bool)) (call (Z84.R x0) fun v2=>(call (Z96.R (v2,v1)) fun v3=>ret (((⟨v1,v3⟩:bS),true):bS×Bool)))))
def md (a0:List ah)(a1:aB):aM×Bool:=(cond (decide ((Z94.md a0 a1)<0)) ((⟨0,[]⟩:aM),false) ((⟨(Z94.md a0 a1),(Z96.md (Z84.md a0) (Z94.md a0 a1))⟩:aM),true))
def gd (a0:List ah)(a1:aB):Prop:=(bL (2^21) (fun y:ah=>ah.Sm (2^21) y) a0)
def R:=RR (p2 gd) (u2 md)
def aj {a0 a1}(h:gd a0 a1):R ((a0.map ah.row),a1)=some ((aM.r (md a0 a1).1),(md a0 a1).2):=aN (a:=(a0,a1)) h
def aT:=CN [pL 57,pS] (.iE [(true,f161),(false,[fB])]) RT.dec R
def bt (a0)(a1)(hg:gd a0 a1):F (a0.map ah.row) a1=ret ((aM.r (md a0 a1).1),(md a0 a1).2):=by
 unfold gd at hg
 have H0:=hg
 unfold F md
 try simp only [SS]
 refine ct (Z94.aj H0) ?_
 have fv1_:=Z94.fa a0 a1
 refine au (fun b:aM×Bool=>ret (((aM.r b.1),b.2):bS×Bool)) (fun c1=>?_) (fun c1=>?_)
 ·all_goals exact fz
 ·have dc1:=c1
  try simp only [DC] at dc1
  refine ct (Z84.aj H0) ?_
  try simp only [SS]
  refine ct (Z96.aj ⟨(have:=Z84.len a0;have:=(H0).1;om),fun _ _=>trivial⟩) ?_
  try simp only [SS]
  all_goals exact fz
def af:cw 165 aT:=W2 19 F mix aE bt (.cons Z94.af (.cons Z84.af (.cons Z96.af .nil))) Tryz.func165
def gh {a0:List ah}{a1:aB}(hg:gd a0 a1):aM.Sm (2^21) ((md a0 a1).1):=by
 unfold gd at hg;unfold md
 cases decide (Z94.md a0 a1<0)
 ·refine ⟨?_,fun _ _=>trivial⟩
  have h:=Z96.len (Z84.md a0) (Z94.md a0 a1)
  rw [Z84.len] at h
  exact le_trans h hg.1
 ·exact bL.nil
def sz (a0:List ah)(a1:aB):aM.size (md a0 a1).1<=a0.length:=by
 unfold aM.size md
 rw [pZ]
 cases decide (Z94.md a0 a1<0)
 ·have:=Z96.len (Z84.md a0) (Z94.md a0 a1)
  rw [Z84.len] at this
  exact this
 ·exact zero_le _
end Z97
namespace Z98
inductive Pt where
 | p0 (a:aC) (b:aB) (c d:Int)
def pid:Pt->Nat
 | .p0 ..=>3
def cg:Pt->List V
 | .p0 a b c d=>[.sl none 57 a,.str b,.int .i64 c,.int .i64 d]
def bZ:Pt->List aW
 | .p0 a b c d=>[]
def step (J:Pt->aH):Pt->aH
 | .p0 a b c d=>(cond (decide (d<(a.length:Int))) (m2 d (a.length:Int) (call (Z78.R ((aU.at a (toNat d)).bk,b)) fun v1=>(cond (decide (v1<0)) (J (.p0 a b (i64.wrap (c+1)) (i64.wrap (d+1)))) (J (.p0 a b c (i64.wrap (d+1))))))) (ret (c:Int)))
def start (J:Pt->aH)(x0:aC)(x1:aB):aH:=J (.p0 x0 x1 0 0)
def live:Nat->Live:=fun i=>match i with | 3=>[(0,none),(1,none),(5,none),(6,none)] | _=>[]
def md (a0:List ah)(a1:aB):Int:=(dX (S:=Int) (β:=Int) (fun (y1:ah) (s3:Int)=>(cond (decide ((Z78.md (y1.bk) a1)<0)) (.inl (i64.wrap (s3+1))) (.inl s3))) (fun (s3:Int)=>(s3:Int)) a0 0)
def gd (a0:List ah)(a1:aB):Prop:=(bL (2^21) (fun y:ah=>ah.Sm (2^21) y) a0)
def R:=RR (p2 gd) (u2 md)
def aj {a0 a1}(h:gd a0 a1):R ((a0.map ah.row),a1)=some (md a0 a1):=aN (a:=(a0,a1)) h
def aT:=CN [pL 57,pS] oI RT.dec R
def bt (a0)(a1)(hg:gd a0 a1):∃n,start (iter step n) (a0.map ah.row) a1=ret (md a0 a1):=by
 unfold gd at hg
 have H0:=hg
 unfold start md
 try simp only [SS]
 have Bh2:a0.length<=maxLen:=(by
   have:=(H0).1
   try simp only [maxLen] at *
   omega)
 refine ex_eq (out:=ret) (eG (z:=ah.zero)) ?_
 refine dK (p:=Pt.p0 (a0.map ah.row) a1 0 0) fz ?_
 refine cj (pt:=fun (i1:Nat) (s3:Int)=>Pt.p0 (a0.map ah.row) a1 s3 (i1:Int)) (s:=(0:Int)) (out:=ret) (fun _ _=>True) (fun J i1 s3 h2 hih2=>?_) (fun s3 hih2=>?_) trivial
 ·simp only [step,SS]
  have bb_:=Bh2
  simp only [maxLen] at bb_
  have:=(H0).1
  refine bz.yes (by apply decide_eq_true;omega) ?_
  refine bz.yes aI ?_
  refine bz.yes (aL h2) ?_
  refine cr (Z78.aj trivial) ?_
  refine bz.bif (fun c4=>?_) (fun c4=>?_)
  ·refine bz.inl trivial ?_
   rw [aG h2 Bh2]
   all_goals exact fz
  ·refine bz.inl trivial ?_
   rw [aG h2 Bh2]
   all_goals exact fz
 ·simp only [step,SS]
  have:=(H0).1
  refine dx (by apply decide_eq_false;omega) ?_
  refine ⟨0,?_⟩
  all_goals exact fz
def af:cw 204 aT:=L2 24 pid cg bZ live step start mix aE bt (.cons Z78.af .nil) Tryz.func204
def fa (a0:List ah)(a1:aB):a0.length<=2^21->0<=md a0 a1/\md a0 a1<=(a0.length:Int):=fun hl=>by
 have key:∀(xs:List ah) (s:Int),0<=s->s+xs.length<=2^22->0<=dX (S:=Int) (β:=Int) (fun (y1:ah) (s3:Int)=>(cond (decide ((Z78.md (y1.bk) a1)<0)) (.inl (i64.wrap (s3+1))) (.inl s3))) (fun (s3:Int)=>(s3:Int)) xs s/\dX (S:=Int) (β:=Int) (fun (y1:ah) (s3:Int)=>(cond (decide ((Z78.md (y1.bk) a1)<0)) (.inl (i64.wrap (s3+1))) (.inl s3))) (fun (s3:Int)=>(s3:Int)) xs s<=s+xs.length:=by
  intro xs
  induction xs with
  | nil=>intro s h0 h1;exact ⟨h0,by simp [dX]⟩
  | cons x xs ih=>
   intro s h0 h1
   simp only [List.length_cons] at h1 ⊢
   unfold dX
   cases decide (Z78.md x.bk a1<0)
   ·have:=ih s h0 (by omega)
    simp only [bq]
    omega
   ·have:=ih (s+1) (by omega) (by omega)
    simp only [bf]
    rw [wi _ (by omega)]
    omega
 have:=key a0 0 (Int.le_refl _) (by omega)
 unfold md
 omega
end Z98
namespace Z99
def F (x0:aC)(x1:aB):aH:=(call (Z79.R x0) fun v1=>(cond (!v1) (ret (((⟨0,(⟨(⟨#[]⟩:aB),0,0,[]⟩:aU),(⟨(⟨#[]⟩:aB),0,0,[]⟩:aU),(⟨0,[]⟩:bS),(⟨0,[]⟩:bS)⟩:dM),false):dM×Bool)) (call (Z48.R x1) fun v2=>(cond (!v2) (ret (((⟨0,(⟨(⟨#[]⟩:aB),0,0,[]⟩:aU),(⟨(⟨#[]⟩:aB),0,0,[]⟩:aU),(⟨0,[]⟩:bS),(⟨0,[]⟩:bS)⟩:dM),false):dM×Bool)) (call (Z94.R (x0,x1)) fun v3=>(cond (decide (v3>=0)) (ret (((⟨0,(⟨(⟨#[]⟩:aB),0,0,[]⟩:aU),(⟨(⟨#[]⟩:aB),0,0,[]⟩:aU),(⟨0,[]⟩:bS),(⟨0,[]⟩:bS)⟩:dM),false):dM×Bool)) (call (Z98.R (x0,x1)) fun v4=>(cond (decide (v4>0)) (ck (decide ((0:Int)<=(i64.wrap (v4 - 1)))) (ck (decide ((i64.wrap (v4 - 1))<(x0.length:Int))) (call (Z95.R (aU.at x0 (toNat (i64.wrap (v4 - 1))))) fun v5=>(ck (decide ((0:Int)<=(i64.wrap (v4 - 1)))) (ck (decide ((i64.wrap (v4 - 1))<(x0.length:Int))) (call (Z97.R (x0,(aU.at x0 (toNat (i64.wrap (v4 - 1)))).bk)) fun v6=>(cond (decide (v4<(x0.length:Int))) (m2 v4 (x0.length:Int) (call (Z95.R (aU.at x0 (toNat v4))) fun v7=>(m2 v4 (x0.length:Int) (call (Z97.R (x0,(aU.at x0 (toNat v4)).bk)) fun v8=>ret (((⟨v4,v5,v7,v6.1,v8.1⟩:dM),true):dM×Bool))))) (ret (((⟨v4,v5,(⟨(⟨#[]⟩:aB),0,0,[]⟩:aU),v6.1,(⟨0,[]⟩:bS)⟩:dM),true):dM×Bool))))))))) (cond (decide (v4<(x0.length:Int))) (m2 v4 (x0.length:Int) (call (Z95.R (aU.at x0 (toNat v4))) fun v9=>(m2 v4 (x0.length:Int) (call (Z97.R (x0,(aU.at x0 (toNat v4)).bk)) fun v10=>ret (((⟨v4,(⟨(⟨#[]⟩:aB),0,0,[]⟩:aU),v9,(⟨0,[]⟩:bS),v10.1⟩:dM),true):dM×Bool))))) (ret (((⟨v4,(⟨(⟨#[]⟩:aB),0,0,[]⟩:aU),(⟨(⟨#[]⟩:aB),0,0,[]⟩:aU),(⟨0,[]⟩:bS),(⟨0,[]⟩:bS)⟩:dM),true):dM×Bool)))))))))))
def md (a0:List ah)(a1:aB):bU×Bool:=(cond (!(Z79.md a0)) ((⟨0,(⟨((⟨#[]⟩:aB):aB),0,0,[]⟩:ah),(⟨((⟨#[]⟩:aB):aB),0,0,[]⟩:ah),(⟨0,[]⟩:aM),(⟨0,[]⟩:aM)⟩:bU),false) (cond (!(Z48.md a1)) ((⟨0,(⟨((⟨#[]⟩:aB):aB),0,0,[]⟩:ah),(⟨((⟨#[]⟩:aB):aB),0,0,[]⟩:ah),(⟨0,[]⟩:aM),(⟨0,[]⟩:aM)⟩:bU),false) (cond (decide ((Z94.md a0 a1)>=0)) ((⟨0,(⟨((⟨#[]⟩:aB):aB),0,0,[]⟩:ah),(⟨((⟨#[]⟩:aB):aB),0,0,[]⟩:ah),(⟨0,[]⟩:aM),(⟨0,[]⟩:aM)⟩:bU),false) (cond (decide ((Z98.md a0 a1)>0)) (cond (decide ((Z98.md a0 a1)<(a0.length:Int))) ((⟨(Z98.md a0 a1),(a0.getD (toNat (i64.wrap ((Z98.md a0 a1) - 1))) ah.zero),(a0.getD (toNat (Z98.md a0 a1)) ah.zero),(Z97.md a0 ((a0.getD (toNat (i64.wrap ((Z98.md a0 a1) - 1))) ah.zero).bk)).1,(Z97.md a0 ((a0.getD (toNat (Z98.md a0 a1)) ah.zero).bk)).1⟩:bU),true) ((⟨(Z98.md a0 a1),(a0.getD (toNat (i64.wrap ((Z98.md a0 a1) - 1))) ah.zero),(⟨((⟨#[]⟩:aB):aB),0,0,[]⟩:ah),(Z97.md a0 ((a0.getD (toNat (i64.wrap ((Z98.md a0 a1) - 1))) ah.zero).bk)).1,(⟨0,[]⟩:aM)⟩:bU),true)) (cond (decide ((Z98.md a0 a1)<(a0.length:Int))) ((⟨(Z98.md a0 a1),(⟨((⟨#[]⟩:aB):aB),0,0,[]⟩:ah),(a0.getD (toNat (Z98.md a0 a1)) ah.zero),(⟨0,[]⟩:aM),(Z97.md a0 ((a0.getD (toNat (Z98.md a0 a1)) ah.zero).bk)).1⟩:bU),true) ((⟨(Z98.md a0 a1),(⟨((⟨#[]⟩:aB):aB),0,0,[]⟩:ah),(⟨((⟨#[]⟩:aB):aB),0,0,[]⟩:ah),(⟨0,[]⟩:aM),(⟨0,[]⟩:aM)⟩:bU),true))))))
def gd (a0:List ah)(a1:aB):Prop:=(bL (2^21) (fun y:ah=>ah.Sm (2^21) y) a0)/\(a1.size<=(2^21))
def R:=RR (p2 gd) (u2 md)
def aj {a0 a1}(h:gd a0 a1):R ((a0.map ah.row),a1)=some ((bU.r (md a0 a1).1),(md a0 a1).2):=aN (a:=(a0,a1)) h
def aT:=CN [pL 57,pS] (.iE [(true,f163),(false,[fB])]) RT.dec R
def bt (a0)(a1)(hg:gd a0 a1):F (a0.map ah.row) a1=ret ((bU.r (md a0 a1).1),(md a0 a1).2):=by
 obtain ⟨H0,H1⟩:=hg
 unfold F md
 try simp only [SS]
 refine ct (Z79.aj H0) ?_
 refine au (fun b:bU×Bool=>ret (((bU.r b.1),b.2):dM×Bool)) (fun c1=>?_) (fun c1=>?_)
 ·all_goals exact fz
 ·have dc1:=c1
  try simp only [DC] at dc1
  refine ct (Z48.aj (le_trans H1 (by decide))) ?_
  refine au (fun b:bU×Bool=>ret (((bU.r b.1),b.2):dM×Bool)) (fun c2=>?_) (fun c2=>?_)
  ·all_goals exact fz
  ·have dc2:=c2
   try simp only [DC] at dc2
   try have tc2:=Z48.tr (by simpa using c2)
   refine ct (Z94.aj H0) ?_
   have fv3_:=Z94.fa a0 a1
   refine au (fun b:bU×Bool=>ret (((bU.r b.1),b.2):dM×Bool)) (fun c3=>?_) (fun c3=>?_)
   ·all_goals exact fz
   ·have dc3:=c3
    try simp only [DC] at dc3
    refine ct (Z98.aj H0) ?_
    have fv4_:=Z98.fa a0 a1
    refine au (fun b:bU×Bool=>ret (((bU.r b.1),b.2):dM×Bool)) (fun c4=>?_) (fun c4=>?_)
    ·have dc4:=c4
     try simp only [DC] at dc4
     refine ak (have:=(H0).1;dt) ?_
     refine ak (have:=(H0).1;have:=(H0).1;dt) ?_
     refine ct (Z95.aj (bL.getD (z:=ah.zero) H0 (by have:=(H0).1;first | assumption | omega | (simp (disch:=omega) only [wi];omega) | (simp;omega)))) ?_
     try simp only [SS]
     refine ak (have:=(H0).1;dt) ?_
     refine ak (have:=(H0).1;have:=(H0).1;dt) ?_
     refine ct (Z97.aj H0) ?_
     try simp only [SS]
     refine au (fun b:bU×Bool=>ret (((bU.r b.1),b.2):dM×Bool)) (fun c5=>?_) (fun c5=>?_)
     ·have dc5:=c5
      try simp only [DC] at dc5
      refine ak (have:=(H0).1;dt) ?_
      refine ak (have:=(H0).1;have:=(H0).1;dt) ?_
      refine ct (Z95.aj (bL.getD (z:=ah.zero) H0 (by have:=(H0).1;first | assumption | omega | (simp (disch:=omega) only [wi];omega) | (simp;omega)))) ?_
      try simp only [SS]
      refine ak (have:=(H0).1;dt) ?_
      refine ak (have:=(H0).1;have:=(H0).1;dt) ?_
      refine ct (Z97.aj H0) ?_
      try simp only [SS]
      all_goals exact fz
     ·all_goals exact fz
    ·have dc4:=c4
     try simp only [DC] at dc4
     refine au (fun b:bU×Bool=>ret (((bU.r b.1),b.2):dM×Bool)) (fun c6=>?_) (fun c6=>?_)
     ·have dc6:=c6
      try simp only [DC] at dc6
      refine ak (have:=(H0).1;dt) ?_
      refine ak (have:=(H0).1;have:=(H0).1;dt) ?_
      refine ct (Z95.aj (bL.getD (z:=ah.zero) H0 (by have:=(H0).1;first | assumption | omega | (simp (disch:=omega) only [wi];omega) | (simp;omega)))) ?_
      try simp only [SS]
      refine ak (have:=(H0).1;dt) ?_
      refine ak (have:=(H0).1;have:=(H0).1;dt) ?_
      refine ct (Z97.aj H0) ?_
      try simp only [SS]
      all_goals exact fz
     ·all_goals exact fz
def af:cw 166 aT:=W2 71 F mix aE bt (.cons Z79.af (.cons Z48.af (.cons Z94.af (.cons Z98.af (.cons Z95.af (.cons Z97.af .nil)))))) Tryz.func166
def gh {a0:List ah}{a1:aB}(hg:gd a0 a1):bU.Sm (2^21) ((md a0 a1).1):=by
 unfold gd at hg;unfold md
 have ez:ah.Sm (2^21) ⟨⟨#[]⟩,0,0,[]⟩:=⟨zero_le _,bL.nil⟩
 have pz:aM.Sm (2^21) ⟨0,[]⟩:=bL.nil
 have he:∀i,ah.Sm (2^21) (a0.getD i ah.zero):=fun i=>bL.vp hg.1 ez
 have hp:∀x,aM.Sm (2^21) (Z97.md a0 x).1:=fun x=>Z97.gh hg.1
 simp only [Bool.cond_eq_ite]
 repeat' split
 all_goals (refine ⟨?_,?_,?_,?_⟩<;>first | exact he _ | exact hp _ | exact ez | exact pz)
def sz (a0:List ah)(a1:aB):bU.size (md a0 a1).1<=4*dO (fun y:ah=>ah.size y) a0:=by
 have hl:a0.length<=dO (fun y:ah=>ah.size y) a0:=Nat.le_add_right _ _
 have he:∀i,ah.size (a0.getD i ah.zero)<=dO (fun y:ah=>ah.size y) a0:=fun i=>nC (f:=fun y:ah=>ah.size y) (z:=ah.zero) rfl
 have hp:∀x,aM.size (Z97.md a0 x).1<=a0.length:=fun x=>Z97.sz a0 x
 have hd:∀(n:Int) (b a:ah) (l r:aM),bU.size ⟨n,b,a,l,r⟩=ah.size b+ah.size a+aM.size l+aM.size r:=fun _ _ _ _ _=>rfl
 have e0:ah.size ⟨⟨#[]⟩,0,0,[]⟩=0:=rfl
 have p0:aM.size ⟨0,[]⟩=0:=rfl
 have h1:=he (toNat (i64.wrap ((Z98.md a0 a1) - 1)))
 have h2:=he (toNat (Z98.md a0 a1))
 have h3:=hp ((a0.getD (toNat (i64.wrap ((Z98.md a0 a1) - 1))) ah.zero).bk)
 have h4:=hp ((a0.getD (toNat (Z98.md a0 a1)) ah.zero).bk)
 unfold md
 simp only [Bool.cond_eq_ite]
 repeat' split
 all_goals simp only [hd,e0,p0]
 all_goals omega
end Z99
namespace Z100
def F (x0:dL)(x1:aB):aH:=(call (Z91.R x0) fun v1=>(cond (!v1) (ret ((⟨[],false,(⟨(⟨#[]⟩:aB),0,0,[]⟩:aU),(⟨0,[]⟩:bS),(⟨0,(⟨(⟨#[]⟩:aB),0,0,[]⟩:aU),(⟨(⟨#[]⟩:aB),0,0,[]⟩:aU),(⟨0,[]⟩:bS),(⟨0,[]⟩:bS)⟩:dM)⟩:bg):bg)) (call (Z48.R x1) fun v2=>(cond (!v2) (ret ((⟨[],false,(⟨(⟨#[]⟩:aB),0,0,[]⟩:aU),(⟨0,[]⟩:bS),(⟨0,(⟨(⟨#[]⟩:aB),0,0,[]⟩:aU),(⟨(⟨#[]⟩:aB),0,0,[]⟩:aU),(⟨0,[]⟩:bS),(⟨0,[]⟩:bS)⟩:dM)⟩:bg):bg)) (call (Z44.R x0.aS) fun v3=>(call (Z94.R (x0.bM,x1)) fun v4=>(cond (decide (v4>=0)) (m2 v4 (x0.bM.length:Int) (call (Z95.R (aU.at x0.bM (toNat v4))) fun v5=>(call (Z97.R (x0.bM,x1)) fun v6=>ret ((⟨v3,true,v5,v6.1,(⟨0,(⟨(⟨#[]⟩:aB),0,0,[]⟩:aU),(⟨(⟨#[]⟩:aB),0,0,[]⟩:aU),(⟨0,[]⟩:bS),(⟨0,[]⟩:bS)⟩:dM)⟩:bg):bg)))) (call (Z99.R (x0.bM,x1)) fun v7=>ret ((⟨v3,false,(⟨(⟨#[]⟩:aB),0,0,[]⟩:aU),(⟨0,[]⟩:bS),v7.1⟩:bg):bg)))))))))
def md (a0:aK)(a1:aB):ay:=(cond (!(Z91.md a0)) (⟨[],false,(⟨((⟨#[]⟩:aB):aB),0,0,[]⟩:ah),(⟨0,[]⟩:aM),(⟨0,(⟨((⟨#[]⟩:aB):aB),0,0,[]⟩:ah),(⟨((⟨#[]⟩:aB):aB),0,0,[]⟩:ah),(⟨0,[]⟩:aM),(⟨0,[]⟩:aM)⟩:bU)⟩:ay) (cond (!(Z48.md a1)) (⟨[],false,(⟨((⟨#[]⟩:aB):aB),0,0,[]⟩:ah),(⟨0,[]⟩:aM),(⟨0,(⟨((⟨#[]⟩:aB):aB),0,0,[]⟩:ah),(⟨((⟨#[]⟩:aB):aB),0,0,[]⟩:ah),(⟨0,[]⟩:aM),(⟨0,[]⟩:aM)⟩:bU)⟩:ay) (cond (decide ((Z94.md a0.bM a1)>=0)) (⟨a0.aS,true,(a0.bM.getD (toNat (Z94.md a0.bM a1)) ah.zero),(Z97.md a0.bM a1).1,(⟨0,(⟨((⟨#[]⟩:aB):aB),0,0,[]⟩:ah),(⟨((⟨#[]⟩:aB):aB),0,0,[]⟩:ah),(⟨0,[]⟩:aM),(⟨0,[]⟩:aM)⟩:bU)⟩:ay) (⟨a0.aS,false,(⟨((⟨#[]⟩:aB):aB),0,0,[]⟩:ah),(⟨0,[]⟩:aM),(Z99.md a0.bM a1).1⟩:ay))))
def gd (a0:aK)(a1:aB):Prop:=(aK.Sm (2^21) a0)/\(a1.size<=(2^21))
def R:=RR (p2 gd) (u2 md)
def aj {a0 a1}(h:gd a0 a1):R ((aK.r a0),a1)=some (ay.r (md a0 a1)):=aN (a:=(a0,a1)) h
def aT:=CN [.agg sG,pS] (.agg f165) RT.dec R
def bt (a0)(a1)(hg:gd a0 a1):F (aK.r a0) a1=ret (ay.r (md a0 a1)):=by
 obtain ⟨H0,H1⟩:=hg
 unfold F md
 try simp only [SS]
 refine ct (Z91.aj H0) ?_
 refine au (fun b:ay=>ret ((ay.r b):bg)) (fun c1=>?_) (fun c1=>?_)
 ·all_goals exact fz
 ·have dc1:=c1
  try simp only [DC] at dc1
  refine ct (Z48.aj (le_trans H1 (by decide))) ?_
  refine au (fun b:ay=>ret ((ay.r b):bg)) (fun c2=>?_) (fun c2=>?_)
  ·all_goals exact fz
  ·have dc2:=c2
   try simp only [DC] at dc2
   try have tc2:=Z48.tr (by simpa using c2)
   refine ct (Z44.aj H0.1) ?_
   try simp only [SS]
   refine ct (Z94.aj H0.2) ?_
   have fv4_:=Z94.fa a0.bM a1
   refine au (fun b:ay=>ret ((ay.r b):bg)) (fun c3=>?_) (fun c3=>?_)
   ·have dc3:=c3
    try simp only [DC] at dc3
    refine ak dt ?_
    refine ak (have:=(H0.2).1;dt) ?_
    refine ct (Z95.aj (bL.getD (z:=ah.zero) H0.2 (by first | assumption | omega | (simp (disch:=omega) only [wi];omega) | (simp;omega)))) ?_
    try simp only [SS]
    refine ct (Z97.aj H0.2) ?_
    try simp only [SS]
    all_goals exact fz
   ·refine ct (Z99.aj ⟨H0.2,H1⟩) ?_
    try simp only [SS]
    all_goals exact fz
def af:cw 130 aT:=W2 52 F mix aE bt (.cons Z91.af (.cons Z48.af (.cons Z44.af (.cons Z94.af (.cons Z95.af (.cons Z97.af (.cons Z99.af .nil))))))) Tryz.func130
def gh {a0:aK}{a1:aB}(hg:gd a0 a1):ay.Sm (2^21) (md a0 a1):=by
 unfold gd at hg;unfold md
 obtain ⟨⟨hc,hl⟩,_⟩:=hg
 have ez:ah.Sm (2^21) ⟨⟨#[]⟩,0,0,[]⟩:=⟨zero_le _,bL.nil⟩
 have pz:aM.Sm (2^21) ⟨0,[]⟩:=bL.nil
 have gz:bU.Sm (2^21) ⟨0,⟨⟨#[]⟩,0,0,[]⟩,⟨⟨#[]⟩,0,0,[]⟩,⟨0,[]⟩,⟨0,[]⟩⟩:=⟨ez,ez,pz,pz⟩
 have he:∀i,ah.Sm (2^21) (a0.bM.getD i ah.zero):=fun i=>bL.vp hl ez
 have hp:∀x,aM.Sm (2^21) (Z97.md a0.bM x).1:=fun x=>Z97.gh hl
 have hga:bU.Sm (2^21) (Z99.md a0.bM a1).1:=Z99.gh ⟨hl,by assumption⟩
 simp only [Bool.cond_eq_ite]
 repeat' split
 all_goals (refine ⟨?_,?_,?_,?_⟩<;>first | exact hc | exact bL.nil | exact he _ | exact hp _ | exact hga | exact ez | exact pz | exact gz)
def sz (a0:aK)(a1:aB):ay.size (md a0 a1)<=6*aK.size a0:=by
 have hz:aK.size a0=dO (fun y:aa=>aa.size y) a0.aS+dO (fun y:ah=>ah.size y) a0.bM:=rfl
 have hl:a0.bM.length<=dO (fun y:ah=>ah.size y) a0.bM:=Nat.le_add_right _ _
 have he:∀i,ah.size (a0.bM.getD i ah.zero)<=dO (fun y:ah=>ah.size y) a0.bM:=fun i=>nC (f:=fun y:ah=>ah.size y) (z:=ah.zero) rfl
 have hp:=Z97.sz a0.bM a1
 have hg:=Z99.sz a0.bM a1
 have hd:∀(c:List aa) (f:Bool) (e:ah) (p:aM) (g:bU),ay.size ⟨c,f,e,p,g⟩=dO (fun y:aa=>aa.size y) c+ah.size e+aM.size p+bU.size g:=fun _ _ _ _ _=>rfl
 have e0:ah.size ⟨⟨#[]⟩,0,0,[]⟩=0:=rfl
 have p0:aM.size ⟨0,[]⟩=0:=rfl
 have g0:bU.size ⟨0,⟨⟨#[]⟩,0,0,[]⟩,⟨⟨#[]⟩,0,0,[]⟩,⟨0,[]⟩,⟨0,[]⟩⟩=0:=rfl
 have c0:dO (fun y:aa=>aa.size y) []=0:=rfl
 have h1:=he (toNat (Z94.md a0.bM a1))
 unfold md
 simp only [Bool.cond_eq_ite]
 repeat' split
 all_goals simp only [hd,e0,p0,g0,c0]
 all_goals omega
end Z100
namespace Z101
def F (x0:cL)(x1:Int)(x2:aB):aH:=(call (Z93.R (x0,x1)) fun v1=>(cond (decide (v1<0)) (ret ((⟨[],false,(⟨(⟨#[]⟩:aB),0,0,[]⟩:aU),(⟨0,[]⟩:bS),(⟨0,(⟨(⟨#[]⟩:aB),0,0,[]⟩:aU),(⟨(⟨#[]⟩:aB),0,0,[]⟩:aU),(⟨0,[]⟩:bS),(⟨0,[]⟩:bS)⟩:dM)⟩:bg):bg)) (cond (x0.gI==4) (ret ((⟨[],false,(⟨(⟨#[]⟩:aB),0,0,[]⟩:aU),(⟨0,[]⟩:bS),(⟨0,(⟨(⟨#[]⟩:aB),0,0,[]⟩:aU),(⟨(⟨#[]⟩:aB),0,0,[]⟩:aU),(⟨0,[]⟩:bS),(⟨0,[]⟩:bS)⟩:dM)⟩:bg):bg)) (m2 v1 (x0.bG.length:Int) (call (Z100.R ((dL.at x0.bG (toNat v1)),x2)) fun v2=>(cond (x0.gI==1) (ret ((⟨v2.aS,v2.cu,(⟨v2.aV.bk,v2.aV.bK,(i64.wrap (v2.aV.bW+1)),v2.aV.bI⟩:aU),v2.eD,v2.fV⟩:bg):bg)) (cond (x0.gI==2) (cond (decide ((v2.aS.length:Int)>0)) (ck (decide ((0:Int)<=(i64.wrap ((v2.aS.length:Int) - 1)))) (ck (decide ((i64.wrap ((v2.aS.length:Int) - 1))<=(v2.aS.length:Int))) (ret ((⟨(List.take (toNat (i64.wrap ((v2.aS.length:Int) - 1))) v2.aS),v2.cu,v2.aV,v2.eD,v2.fV⟩:bg):bg)))) (ret (v2:bg))) (cond (x0.gI==3) (ret ((⟨v2.aS,false,(⟨(⟨#[]⟩:aB),0,0,[]⟩:aU),(⟨0,[]⟩:bS),(⟨0,(⟨(⟨#[]⟩:aB),0,0,[]⟩:aU),(⟨(⟨#[]⟩:aB),0,0,[]⟩:aU),(⟨0,[]⟩:bS),(⟨0,[]⟩:bS)⟩:dM)⟩:bg):bg)) (ret (v2:bg))))))))))
def pats:List fY:=[.agg [.sl 155,aD],.rd (.int .i64),.rd (.str)]
def res:RP:=.agg [.fr 141,.rd (.bool),.rd (.str),.rd (.int .i64),.rd (.int .i64),.fr 9,.rd (.int .i64),.fr 3,.rd (.int .i64),.rd (.str),.rd (.int .i64),.rd (.int .i64),.fr 9,.rd (.str),.rd (.int .i64),.rd (.int .i64),.fr 9,.rd (.int .i64),.fr 3,.rd (.int .i64),.fr 3]
def md (a0:av)(a1:Int)(a2:aB):ay:=(cond (decide ((Z93.md a0 a1)<0)) (⟨[],false,(⟨((⟨#[]⟩:aB):aB),0,0,[]⟩:ah),(⟨0,[]⟩:aM),(⟨0,(⟨((⟨#[]⟩:aB):aB),0,0,[]⟩:ah),(⟨((⟨#[]⟩:aB):aB),0,0,[]⟩:ah),(⟨0,[]⟩:aM),(⟨0,[]⟩:aM)⟩:bU)⟩:ay) (cond (a0.gI==4) (⟨[],false,(⟨((⟨#[]⟩:aB):aB),0,0,[]⟩:ah),(⟨0,[]⟩:aM),(⟨0,(⟨((⟨#[]⟩:aB):aB),0,0,[]⟩:ah),(⟨((⟨#[]⟩:aB):aB),0,0,[]⟩:ah),(⟨0,[]⟩:aM),(⟨0,[]⟩:aM)⟩:bU)⟩:ay) (cond (a0.gI==1) (⟨(Z100.md (a0.bG.getD (toNat (Z93.md a0 a1)) aK.zero) a2).aS,(Z100.md (a0.bG.getD (toNat (Z93.md a0 a1)) aK.zero) a2).cu,(⟨(Z100.md (a0.bG.getD (toNat (Z93.md a0 a1)) aK.zero) a2).aV.bk,(Z100.md (a0.bG.getD (toNat (Z93.md a0 a1)) aK.zero) a2).aV.bK,(i64.wrap ((Z100.md (a0.bG.getD (toNat (Z93.md a0 a1)) aK.zero) a2).aV.bW+1)),(Z100.md (a0.bG.getD (toNat (Z93.md a0 a1)) aK.zero) a2).aV.bI⟩:ah),(Z100.md (a0.bG.getD (toNat (Z93.md a0 a1)) aK.zero) a2).eD,(Z100.md (a0.bG.getD (toNat (Z93.md a0 a1)) aK.zero) a2).fV⟩:ay) (cond (a0.gI==2) (cond (decide (((Z100.md (a0.bG.getD (toNat (Z93.md a0 a1)) aK.zero) a2).aS.length:Int)>0)) (⟨(List.take (toNat (i64.wrap (((Z100.md (a0.bG.getD (toNat (Z93.md a0 a1)) aK.zero) a2).aS.length:Int) - 1))) (Z100.md (a0.bG.getD (toNat (Z93.md a0 a1)) aK.zero) a2).aS),(Z100.md (a0.bG.getD (toNat (Z93.md a0 a1)) aK.zero) a2).cu,(Z100.md (a0.bG.getD (toNat (Z93.md a0 a1)) aK.zero) a2).aV,(Z100.md (a0.bG.getD (toNat (Z93.md a0 a1)) aK.zero) a2).eD,(Z100.md (a0.bG.getD (toNat (Z93.md a0 a1)) aK.zero) a2).fV⟩:ay) (Z100.md (a0.bG.getD (toNat (Z93.md a0 a1)) aK.zero) a2)) (cond (a0.gI==3) (⟨(Z100.md (a0.bG.getD (toNat (Z93.md a0 a1)) aK.zero) a2).aS,false,(⟨((⟨#[]⟩:aB):aB),0,0,[]⟩:ah),(⟨0,[]⟩:aM),(⟨0,(⟨((⟨#[]⟩:aB):aB),0,0,[]⟩:ah),(⟨((⟨#[]⟩:aB):aB),0,0,[]⟩:ah),(⟨0,[]⟩:aM),(⟨0,[]⟩:aM)⟩:bU)⟩:ay) (Z100.md (a0.bG.getD (toNat (Z93.md a0 a1)) aK.zero) a2))))))
def gd (a0:av)(a1:Int)(a2:aB):Prop:=(av.Sm (2^21) a0)/\(a2.size<=(2^21))
def acc (ls:List L):cL×Int×aB:=((cL.dec ls),((aA 2 ls).headD .hole).toInt,((aA 3 ls).headD .hole).toStr)
def R:(cL×Int×aB)->Option bg:=RR (p3 gd) (u3 md)
def aj {a0 a1 a2}(h:gd a0 a1 a2):R ((av.r a0),a1,a2)=some (ay.r (md a0 a1 a2)):=aN (a:=(a0,a1,a2)) h
def aT:fQ:=CN pats res acc R
def bt (a0:av)(a1:Int)(a2:aB)(hg:gd a0 a1 a2):F (av.r a0) a1 a2=ret ((ay.r (md a0 a1 a2)):bg):=by
 obtain ⟨H0,H2⟩:=hg
 unfold F md
 try simp only [SS]
 refine ct (Z93.aj H0) ?_
 have fv1_:=Z93.fa a0 a1
 refine au (fun b:ay=>ret ((ay.r b):bg)) (fun c1=>?_) (fun c1=>?_)
 ·all_goals exact fz
 ·have dc1:=c1
  try simp only [DC] at dc1
  refine au (fun b:ay=>ret ((ay.r b):bg)) (fun c2=>?_) (fun c2=>?_)
  ·all_goals exact fz
  ·have dc2:=c2
   try simp only [DC] at dc2
   refine ak (have:=(H0).1;dt) ?_
   refine ak (have:=(H0).1;have:=(H0).1;dt) ?_
   refine ct (Z100.aj ⟨(bL.getD (z:=aK.zero) H0 (by have:=(H0).1;first | assumption | omega | (simp (disch:=omega) only [wi];omega) | (simp;omega))),H2⟩) ?_
   try simp only [SS]
   refine au (fun b:ay=>ret ((ay.r b):bg)) (fun c3=>?_) (fun c3=>?_)
   ·all_goals exact fz
   ·have dc3:=c3
    try simp only [DC] at dc3
    refine au (fun b:ay=>ret ((ay.r b):bg)) (fun c4=>?_) (fun c4=>?_)
    ·have dc4:=c4
     try simp only [DC] at dc4
     refine au (fun b:ay=>ret ((ay.r b):bg)) (fun c5=>?_) (fun c5=>?_)
     ·have dc5:=c5
      try simp only [DC] at dc5
      refine ak (have:=((Z100.gh (a0:=a0.bG.getD (toNat (Z93.md a0 a1)) aK.zero) (a1:=a2) ⟨(bL.getD (z:=aK.zero) H0 (by have:=(H0).1;first | assumption | omega | (simp (disch:=omega) only [wi];omega) | (simp;omega))),H2⟩).1).1;have:=(H0).1;dt) ?_
      refine ak (have:=((Z100.gh (a0:=a0.bG.getD (toNat (Z93.md a0 a1)) aK.zero) (a1:=a2) ⟨(bL.getD (z:=aK.zero) H0 (by have:=(H0).1;first | assumption | omega | (simp (disch:=omega) only [wi];omega) | (simp;omega))),H2⟩).1).1;have:=(H0).1;dt) ?_
      all_goals exact fz
     ·all_goals exact fz
    ·refine au (fun b:ay=>ret ((ay.r b):bg)) (fun c6=>?_) (fun c6=>?_)
     ·all_goals exact fz
     ·all_goals exact fz
def af:cw 106 aT:=VT (live:=fun _=>[]) (nt:=57) (run:=fun _ x=>F x.1 x.2.1 x.2.2) mix aE (.cons Z93.af (.cons Z100.af .nil)) .nil Tryz.func106 (by kernel_rfl) (fun _ _=>by kernel_rfl) (fun _ a _ _ hg=>⟨0,bt a.1 a.2.1 a.2.2 hg⟩)
def gh {a0:av}{a1:Int}{a2:aB}(hg:gd a0 a1 a2):ay.Sm (2^21) (md a0 a1 a2):=by
 unfold gd at hg;unfold md
 obtain ⟨hs,hl⟩:=hg
 have ez:ah.Sm (2^21) ⟨⟨#[]⟩,0,0,[]⟩:=⟨zero_le _,bL.nil⟩
 have pz:aM.Sm (2^21) ⟨0,[]⟩:=bL.nil
 have gz:bU.Sm (2^21) ⟨0,⟨⟨#[]⟩,0,0,[]⟩,⟨⟨#[]⟩,0,0,[]⟩,⟨0,[]⟩,⟨0,[]⟩⟩:=⟨ez,ez,pz,pz⟩
 have zz:aK.Sm (2^21) aK.zero:=⟨bL.nil,bL.nil⟩
 have ha:∀i,ay.Sm (2^21) (Z100.md (a0.bG.getD i aK.zero) a2):=fun i=>Z100.gh ⟨bL.vp hs zz,hl⟩
 have ht:∀i n,bL (2^21) (fun y:aa=>aa.Sm (2^21) y) (List.take n (List.drop 0 (Z100.md (a0.bG.getD i aK.zero) a2).aS)):=fun i n=>⟨le_trans (by simp;omega) (ha i).1.1,fun x hx=>(ha i).1.2 x (List.mem_of_mem_take hx)⟩
 have ht2:∀i n,bL (2^21) (fun y:aa=>aa.Sm (2^21) y) (List.take n (Z100.md (a0.bG.getD i aK.zero) a2).aS):=fun i n=>⟨le_trans (by simp;omega) (ha i).1.1,fun x hx=>(ha i).1.2 x (List.mem_of_mem_take hx)⟩
 simp only [Bool.cond_eq_ite]
 repeat' split
 all_goals first | exact ha _ | (refine ⟨?_,?_,?_,?_⟩<;>first | exact ht _ _ | exact ht2 _ _ | exact bL.nil | exact (ha _).1 | exact (ha _).2.1 | exact (ha _).2.2.1 | exact (ha _).2.2.2 | exact ez | exact pz | exact gz)
def vC {α:Type}(f:α->Nat):∀(n:Nat) (xs:List α),dO f (xs.take n)<=dO f xs
 | 0,xs=>by simp [dO]
 | n+1,[]=>by simp [dO]
 | n+1,x::xs=>by
  have:=vC f n xs
  unfold dO at this ⊢
  simp only [List.take_succ_cons,List.length_cons,List.map_cons,List.sum_cons]
  omega
def sz (a0:av)(a1:Int)(a2:aB):ay.size (md a0 a1 a2)<=6*av.size a0:=by
 have hz:aK.size (a0.bG.getD (toNat (Z93.md a0 a1)) aK.zero)<=av.size a0:=nC (f:=fun y:aK=>aK.size y) (xs:=a0.bG) (z:=aK.zero) rfl
 have hA:=Z100.sz (a0.bG.getD (toNat (Z93.md a0 a1)) aK.zero) a2
 have hd:∀(c:List aa) (f:Bool) (e:ah) (p:aM) (g:bU),ay.size ⟨c,f,e,p,g⟩=dO (fun y:aa=>aa.size y) c+ah.size e+aM.size p+bU.size g:=fun _ _ _ _ _=>rfl
 have he:∀(l:aB) (k v:Int) (p:List aB),ah.size ⟨l,k,v,p⟩=l.size+dO (fun y:aB=>y.size) p:=fun _ _ _ _=>rfl
 unfold md
 revert hA
 generalize Z100.md (a0.bG.getD (toNat (Z93.md a0 a1)) aK.zero) a2=A
 intro hA
 have hA2:ay.size A=dO (fun y:aa=>aa.size y) A.aS+ah.size A.aV+aM.size A.eD+bU.size A.fV:=rfl
 have hE2:ah.size A.aV=A.aV.bk.size+dO (fun y:aB=>y.size) A.aV.bI:=rfl
 have ht:=fun n=>vC (fun y:aa=>aa.size y) n A.aS
 have e0:ah.size ⟨⟨#[]⟩,0,0,[]⟩=0:=rfl
 have p0:aM.size ⟨0,[]⟩=0:=rfl
 have g0:bU.size ⟨0,⟨⟨#[]⟩,0,0,[]⟩,⟨⟨#[]⟩,0,0,[]⟩,⟨0,[]⟩,⟨0,[]⟩⟩=0:=rfl
 have c0:dO (fun y:aa=>aa.size y) []=0:=rfl
 have ht1:=ht (toNat (i64.wrap ((A.aS.length:Int) - 1)))
 simp only [Bool.cond_eq_ite]
 repeat' split
 all_goals first
  | omega
  | (simp only [hd,e0,p0,g0,c0];omega)
  | (simp only [hd,he];omega)
end Z101
namespace Z102
inductive Pt where
 | p0 (a:aC) (b:Int) (c:aB) (d:Int) (e:aC)
def pid:Pt->Nat
 | .p0 ..=>3
def cg:Pt->List V
 | .p0 a b c d e=>[.sl none 88 a,.int .i64 b,.str c,.own 0,.int .i64 d]
def bZ:Pt->List aW
 | .p0 a b c d e=>[.row 165 e]
def step (J:Pt->aH):Pt->aH
 | .p0 a b c d e=>(cond (decide (d<(a.length:Int))) (cond (decide (d<4)) (m2 d (a.length:Int) (call (Z101.R ((cL.at a (toNat d)),b,c)) fun v1=>(ck (eT (((e.length:Int)+1)*304)) (J (.p0 a b c (i64.wrap (d+1)) (e++[(bg.enc v1)])))))) (ret (e:aC))) (ret (e:aC)))
def start (J:Pt->aH)(x0:aC)(x1:Int)(x2:aB):aH:=J (.p0 x0 x1 x2 0 [])
def live:Nat->Live:=fun i=>match i with | 3=>[(0,none),(1,none),(2,none),(7,some 165),(8,none)] | _=>[]
def md (a0:List av)(a1:Int)(a2:aB):List ay:=(dQ (S:=List ay) (β:=List ay) (fun (i1:Nat) (y1:av) (s3:List ay)=>(cond (decide ((i1:Int)<4)) (.inl (s3++[(Z101.md y1 a1 a2)])) (.inr s3))) (fun (s3:List ay)=>s3) 0 a0 [])
def gd (a0:List av)(a1:Int)(a2:aB):Prop:=(bL (2^21) (fun y:av=>av.Sm (2^21) y) a0)/\(a2.size<=(2^21))
def R:=RR (p3 gd) (u3 md)
def aj {a0 a1 a2}(h:gd a0 a1 a2):R ((a0.map av.row),a1,a2)=some ((md a0 a1 a2).map ay.row):=aN (a:=(a0,a1,a2)) h
def aT:=CN [pL 88,pI,pS] (oL 165) RT.dec R
def bt (a0)(a1)(a2)(hg:gd a0 a1 a2):∃n,start (iter step n) (a0.map av.row) a1 a2=ret ((md a0 a1 a2).map ay.row):=by
 obtain ⟨H0,H2⟩:=hg
 unfold start md
 try simp only [SS]
 have Bh2:a0.length<=maxLen:=(by
   have:=(H0).1
   try simp only [maxLen] at *
   omega)
 refine ex_eq (out:=(fun b:List ay=>ret ((b.map ay.row):aC))) (cR (z:=av.zero)) ?_
 refine dK (p:=Pt.p0 (a0.map av.row) a1 a2 0 ([].map ay.row)) fz ?_
 refine cj (pt:=fun (i1:Nat) (s3:List ay)=>Pt.p0 (a0.map av.row) a1 a2 (i1:Int) (s3.map ay.row)) (s:=([]:List ay)) (out:=(fun b:List ay=>ret ((b.map ay.row):aC))) (fun (i1:Nat) (s3:List ay)=>s3.length<=([]:List Int).length+1*i1) (fun J i1 s3 h2 hih2=>?_) (fun s3 hih2=>?_) (by simp)
 ·simp only [step,SS]
  have gr_:=hih2
  try simp only [LN] at gr_
  have bb_:=Bh2
  simp only [maxLen] at bb_
  have:=(H0).1
  refine bz.yes (by apply decide_eq_true;omega) ?_
  refine bz.bif (fun c4=>?_) (fun c4=>?_)
  ·have dc4:=c4
   try simp only [DC] at dc4
   refine bz.yes aI ?_
   refine bz.yes (aL h2) ?_
   refine cr (Z101.aj ⟨(bL.getD (z:=av.zero) H0 h2),H2⟩) ?_
   try simp only [SS]
   refine bz.yes lm ?_
   refine bz.inl (by
     have g_:=hih2
     try simp only [LN] at g_ ⊢
     first | omega | (simp;done) | (simp;omega)) ?_
   rw [aG h2 Bh2]
   all_goals exact fz
  ·refine bz.inr ?_
   all_goals exact fz
 ·simp only [step,SS]
  have gr_:=hih2
  try simp only [LN] at gr_
  have:=(H0).1
  refine dx (by apply decide_eq_false;omega) ?_
  refine ⟨0,?_⟩
  all_goals exact fz
def af:cw 65 aT:=L3 31 pid cg bZ live step start mix aE bt (.cons Z101.af .nil) Tryz.func65
def pU (a0:List av)(a1:Int)(a2:aB):md a0 a1 a2=(a0.take 4).map (fun y=>Z101.md y a1 a2):=by
 have key:∀(xs:List av) (i:Nat) (s:List ay),i<=4->dQ (S:=List ay) (β:=List ay) (fun (i1:Nat) (y1:av) (s3:List ay)=>(cond (decide ((i1:Int)<4)) (.inl (s3++[(Z101.md y1 a1 a2)])) (.inr s3))) (fun (s3:List ay)=>s3) i xs s=s++(xs.take (4 - i)).map (fun y=>Z101.md y a1 a2):=by
  intro xs
  induction xs with
  | nil=>intro i s _;simp [dQ]
  | cons x xs ih=>
   intro i s hi
   unfold dQ
   by_cases h:i<4
   ·rw [decide_eq_true (by omega)]
    simp only [bf]
    rw [ih (i+1) _ (by omega),show 4 - i=(4 - (i+1))+1 by omega]
    simp
   ·rw [decide_eq_false (by omega),show 4 - i=0 by omega]
    simp
 exact (key a0 0 [] (by omega)).trans (by simp)
def gh {a0:List av}{a1:Int}{a2:aB}(hg:gd a0 a1 a2):bL (2^21) (fun y:ay=>ay.Sm (2^21) y) (md a0 a1 a2):=by
 unfold gd at hg
 rw [pU]
 exact (bL.take hg.1).map fun x hx=>Z101.gh ⟨hx,hg.2⟩
def Bp (a0:List av)(a1:Int)(a2:aB):(md a0 a1 a2).length<=4:=by
 rw [pU,List.length_map]
 exact le_trans (List.length_take_le _ _) (Nat.le_refl _)
def sz (a0:List av)(a1:Int)(a2:aB):dO (fun y:ay=>ay.size y) (md a0 a1 a2)<=6*dO (fun y:av=>av.size y) a0:=by
 rw [pU]
 have key:∀xs:List av,dO (fun y:ay=>ay.size y) (xs.map (fun y=>Z101.md y a1 a2))<=6*dO (fun y:av=>av.size y) xs:=by
  intro xs
  induction xs with
  | nil=>exact zero_le _
  | cons x xs ih=>
   have h:=Z101.sz x a1 a2
   unfold dO at ih ⊢
   simp only [List.map_cons,List.length_cons,List.sum_cons,List.length_map] at ih ⊢
   omega
 exact le_trans (key _) (Nat.mul_le_mul_left _ (Z101.vC _ _ _))
end Z102
namespace Z103
inductive Pt where
 | p0 (a b:Int) (c:bu)
def pid:Pt->Nat
 | .p0 ..=>2
def cg:Pt->List V
 | .p0 a b c=>[.int .i64 a,.cQ 0 0,.int .i64 b]
def bZ:Pt->List aW
 | .p0 a b c=>[.box [.sl none 134 c.aJ,.sl none 143 c.bp]]
def step (J:Pt->aH):Pt->aH
 | .p0 a b c=>(cond (decide (b<(c.aJ.length:Int))) (m2 b (c.aJ.length:Int) (cond (decide (((og c.aJ (toNat b)).length:Int)>0)) (m2 b (c.aJ.length:Int) (ck (decide ((0:Int)<((og c.aJ (toNat b)).length:Int))) (cond ((aR.at (og c.aJ (toNat b)) 0).an.bC==a) (ret (b:Int)) (J (.p0 a (i64.wrap (b+1)) c))))) (J (.p0 a (i64.wrap (b+1)) c)))) (ret ((-1):Int)))
def start (J:Pt->aH)(x0:bu)(x1:Int):aH:=J (.p0 x1 0 x0)
def live:Nat->Live:=fun i=>match i with | 2=>[(1,none),(2,none),(5,none)] | _=>[]
def md (a0:aq)(a1:Int):Int:=(dQ (S:=Unit) (β:=Int) (fun (i1:Nat) (y1:List aa) (s3:Unit)=>(cond (decide ((y1.length:Int)>0)) (cond (((y1.getD 0 aa.zero).an).bC==a1) (.inr ((i1:Int):Int)) (.inl ())) (.inl ()))) (fun (s3:Unit)=>((-1):Int)) 0 a0.aJ ())
def gd (a0:aq)(a1:Int):Prop:=(aq.Sm (2^21) a0)
def R:=RR (p2 gd) (u2 md)
def aj {a0 a1}(h:gd a0 a1):R ((aq.r a0),a1)=some (md a0 a1):=aN (a:=(a0,a1)) h
def aT:=CN [.agg rK,pI] oI RT.dec R
def bt (a0)(a1)(hg:gd a0 a1):∃n,start (iter step n) (aq.r a0) a1=ret (md a0 a1):=by
 unfold gd at hg
 have H0:=hg
 unfold start md
 try simp only [SS]
 have Bh2:a0.aJ.length<=maxLen:=(by
   have:=(H0.1).1
   try simp only [maxLen] at *
   omega)
 refine ex_eq (out:=ret) (cR (z:=[])) ?_
 refine dK (p:=Pt.p0 a1 0 (aq.r a0)) fz ?_
 refine cj (pt:=fun (i1:Nat) (s3:Unit)=>Pt.p0 a1 (i1:Int) (aq.r a0)) (s:=(():Unit)) (out:=ret) (fun _ _=>True) (fun J i1 s3 h2 hih2=>?_) (fun s3 hih2=>?_) trivial
 ·simp only [step,SS]
  have bb_:=Bh2
  simp only [maxLen] at bb_
  have:=(H0.1).1
  refine bz.yes (by apply decide_eq_true;omega) ?_
  refine bz.yes aI ?_
  refine bz.yes (aL h2) ?_
  refine bz.bif (fun c4=>?_) (fun c4=>?_)
  ·have dc4:=c4
   try simp only [DC] at dc4
   refine bz.yes aI ?_
   refine bz.yes (aL h2) ?_
   refine bz.yes (have:=((bL.getD (z:=[]) H0.1 h2)).1;dt) ?_
   refine bz.bif (fun c5=>?_) (fun c5=>?_)
   ·refine bz.inr ?_
    all_goals exact fz
   ·refine bz.inl trivial ?_
    rw [aG h2 Bh2]
    all_goals exact fz
  ·refine bz.inl trivial ?_
   rw [aG h2 Bh2]
   all_goals exact fz
 ·simp only [step,SS]
  have:=(H0.1).1
  refine dx (by apply decide_eq_false;omega) ?_
  refine ⟨0,?_⟩
  all_goals exact fz
def af:cw 124 aT:=L2 34 pid cg bZ live step start mix aE bt .nil Tryz.func124
def fa (a0:aq)(a1:Int):-1<=md a0 a1/\md a0 a1<(a0.aJ.length:Int):=by
 unfold md
 refine fD ?_ _ _
 all_goals
  intro i x s b h
  revert h
  simp only [Bool.cond_eq_ite]
  repeat' split
  all_goals (intro h;first | (cases h;rfl) | cases h)
end Z103
namespace Z104
def F (x0 x1:bY):aH:=(call (Z58.R x0) fun v1=>(call (Z58.R x1) fun v2=>(call (Z67.R (v1,v2)) fun v3=>(cond v3 (ret ((x0.bE==x1.bE):Bool)) aY))))
def md (a0 a1:aF):Bool:=(cond (Z67.md (Z58.md a0) (Z58.md a1)) ((a0.bE==a1.bE):Bool) (false:Bool))
def gd (a0 a1:aF):Prop:=(aF.Sm (2^21) a0)/\(aF.Sm (2^21) a1)
def R:=RR (p2 gd) (u2 md)
def aj {a0 a1}(h:gd a0 a1):R ((aF.r a0),(aF.r a1))=some (md a0 a1):=aN (a:=(a0,a1)) h
def aT:=CN [.agg fW,.agg fW] oB RT.dec R
def bt (a0)(a1)(hg:gd a0 a1):F (aF.r a0) (aF.r a1)=ret (md a0 a1):=by
 obtain ⟨H0,H1⟩:=hg
 unfold F md
 try simp only [SS]
 refine ct (Z58.aj H0) ?_
 try simp only [SS]
 refine ct (Z58.aj H1) ?_
 try simp only [SS]
 refine ct (Z67.aj ⟨⟨(have:=Z58.len a0;have:=(H0.1).1;have:=(H0.2.1).1;have:=(H0.2.2).1;om),fun _ _=>trivial⟩,⟨(have:=Z58.len a1;have:=(H1.1).1;have:=(H1.2.1).1;have:=(H1.2.2).1;om),fun _ _=>trivial⟩⟩) ?_
 refine au ret (fun c1=>?_) (fun _=>rfl)
 all_goals exact fz
def af:cw 156 aT:=W2 17 F mix aE bt (.cons Z58.af (.cons Z67.af .nil)) Tryz.func156
def md_eq (a0 a1:aF):md a0 a1=dW a0 a1:=by
 unfold md
 simp only [Z67.md_eq,bool_beq]
 rw [Bool.eq_iff_iff]
 constructor
 ·intro h
  cases he:dW (Z58.md a0) (Z58.md a1)<;>rw [he] at h
  ·cases h
  ·exact dc.2 (Z58.inj (dc.1 he))
 ·intro h
  rw [dc] at h
  rw [h,fH,fH];rfl
end Z104
namespace Z105
inductive Pt where
 | p0 (a b:aC) (c:Int)
def pid:Pt->Nat
 | .p0 ..=>4
def cg:Pt->List V
 | .p0 a b c=>[.sl none 141 a,.sl none 141 b,.int .i64 c]
def bZ:Pt->List aW
 | .p0 a b c=>[]
def step (J:Pt->aH):Pt->aH
 | .p0 a b c=>(cond (decide (c<(a.length:Int))) (m2 c (a.length:Int) (m2 c (b.length:Int) (call (Z104.R ((aR.at a (toNat c)).an,(aR.at b (toNat c)).an)) fun v1=>(cond (!v1) aY (J (.p0 a b (i64.wrap (c+1)))))))) ep)
def start (J:Pt->aH)(x0 x1:aC):aH:=(cond (decide ((x0.length:Int)>(x1.length:Int))) aY (J (.p0 x0 x1 0)))
def live:Nat->Live:=fun i=>match i with | 4=>[(0,none),(1,none),(5,none)] | _=>[]
def md (a0 a1:List aa):Bool:=(bif (decide ((a0.length:Int)>(a1.length:Int))) then (false:Bool) else (eo (S:=Unit) (β:=Bool) (fun (i2:Nat) (s4:Unit)=>(cond (!(Z104.md ((a0.getD i2 aa.zero).an) ((a1.getD i2 aa.zero).an))) (.inr (false:Bool)) (.inl ()))) (fun (s4:Unit)=>(true:Bool)) a0.length 0 ()))
def gd (a0 a1:List aa):Prop:=(bL (2^21) (fun y:aa=>aa.Sm (2^21) y) a0)/\(bL (2^21) (fun y:aa=>aa.Sm (2^21) y) a1)
def R:=RR (p2 gd) (u2 md)
def aj {a0 a1}(h:gd a0 a1):R ((a0.map aa.row),(a1.map aa.row))=some (md a0 a1):=aN (a:=(a0,a1)) h
def aT:=CN [pL 141,pL 141] oB RT.dec R
def bt (a0)(a1)(hg:gd a0 a1):∃n,start (iter step n) (a0.map aa.row) (a1.map aa.row)=ret (md a0 a1):=by
 obtain ⟨H0,H1⟩:=hg
 unfold start md
 try simp only [SS]
 refine gR ret (fun _=>⟨0,rfl⟩) (fun c1=>?_)
 have dc1:=c1
 try simp only [DC] at dc1
 have Bh3:a0.length<=maxLen:=(by
   have:=(H0).1
   try simp only [maxLen] at *
   omega)
 refine dK (p:=Pt.p0 (a0.map aa.row) (a1.map aa.row) 0) fz ?_
 refine cj (pt:=fun (i2:Nat) (s4:Unit)=>Pt.p0 (a0.map aa.row) (a1.map aa.row) (i2:Int)) (s:=(():Unit)) (out:=ret) (fun _ _=>True) (fun J i2 s4 h3 hih3=>?_) (fun s4 hih3=>?_) trivial
 ·simp only [step,SS]
  have bb_:=Bh3
  simp only [maxLen] at bb_
  have:=(H0).1
  refine bz.yes (by apply decide_eq_true;omega) ?_
  refine bz.yes aI ?_
  refine bz.yes (aL h3) ?_
  refine bz.yes aI ?_
  refine bz.yes (have:=(H1).1;dt) ?_
  refine cr (Z104.aj ⟨(bL.getD (z:=aa.zero) H0 h3).1,(bL.getD (z:=aa.zero) H1 (by first | assumption | omega | (simp (disch:=omega) only [wi];omega) | (simp;omega))).1⟩) ?_
  refine bz.bif (fun _=>bz.inr rfl) (fun c5=>?_)
  refine bz.inl trivial ?_
  rw [aG h3 Bh3]
  all_goals exact fz
 ·simp only [step,SS]
  have:=(H0).1
  refine dx (by apply decide_eq_false;omega) ?_
  refine ⟨0,?_⟩
  all_goals exact fz
def af:cw 155 aT:=L2 29 pid cg bZ live step start mix aE bt (.cons Z104.af .nil) Tryz.func155
end Z105
namespace Z106
def F (x0:bu)(x1:aC):aH:=(call (Z75.R x1) fun v1=>(cond (!v1) (ret (6:Int)) (ck (decide ((0:Int)<(x1.length:Int))) (call (Z103.R (x0,(aR.at x1 0).an.bC)) fun v2=>(cond (decide (v2<0)) (ret (1:Int)) (m2 v2 (x0.aJ.length:Int) (call (Z105.R ((og x0.aJ (toNat v2)),x1)) fun v3=>(m2 v2 (x0.aJ.length:Int) (call (Z105.R (x1,(og x0.aJ (toNat v2)))) fun v4=>(cond v3 (cond v4 (ret (2:Int)) (cond v3 (ret (3:Int)) (cond v4 (ret (4:Int)) (ret (5:Int))))) (cond v3 (ret (3:Int)) (cond v4 (ret (4:Int)) (ret (5:Int))))))))))))))
def md (a0:aq)(a1:List aa):Int:=(cond (!(Z75.md a1)) (6:Int) (cond (decide ((Z103.md a0 (((a1.getD 0 aa.zero).an).bC))<0)) (1:Int) (cond (Z105.md (a0.aJ.getD (toNat (Z103.md a0 (((a1.getD 0 aa.zero).an).bC))) []) a1) (cond (Z105.md a1 (a0.aJ.getD (toNat (Z103.md a0 (((a1.getD 0 aa.zero).an).bC))) [])) (2:Int) (cond (Z105.md (a0.aJ.getD (toNat (Z103.md a0 (((a1.getD 0 aa.zero).an).bC))) []) a1) (3:Int) (cond (Z105.md a1 (a0.aJ.getD (toNat (Z103.md a0 (((a1.getD 0 aa.zero).an).bC))) [])) (4:Int) (5:Int)))) (cond (Z105.md (a0.aJ.getD (toNat (Z103.md a0 (((a1.getD 0 aa.zero).an).bC))) []) a1) (3:Int) (cond (Z105.md a1 (a0.aJ.getD (toNat (Z103.md a0 (((a1.getD 0 aa.zero).an).bC))) [])) (4:Int) (5:Int))))))
def gd (a0:aq)(a1:List aa):Prop:=(aq.Sm (2^21) a0)/\(bL (2^21) (fun y:aa=>aa.Sm (2^21) y) a1)
def R:=RR (p2 gd) (u2 md)
def aj {a0 a1}(h:gd a0 a1):R ((aq.r a0),(a1.map aa.row))=some (md a0 a1):=aN (a:=(a0,a1)) h
def aT:=CN [.agg rK,pL 141] oI RT.dec R
def bt (a0)(a1)(hg:gd a0 a1):F (aq.r a0) (a1.map aa.row)=ret (md a0 a1):=by
 obtain ⟨H0,H1⟩:=hg
 unfold F md
 try simp only [SS]
 refine ct (Z75.aj H1) ?_
 refine au ret (fun _=>rfl) (fun c1=>?_)
 have dc1:=c1
 try simp only [DC] at dc1
 try have tc1:=Z75.tr (by simpa using c1)
 refine ak (have:=(H1).1;dt) ?_
 refine ct (Z103.aj H0) ?_
 have fv2_:=Z103.fa a0 (((a1.getD 0 aa.zero).an).bC)
 refine au ret (fun _=>rfl) (fun c2=>?_)
 have dc2:=c2
 try simp only [DC] at dc2
 refine ak dt ?_
 refine ak (have:=(H0.1).1;dt) ?_
 refine ct (Z105.aj ⟨(bL.getD (z:=[]) H0.1 (by first | assumption | omega | (simp (disch:=omega) only [wi];omega) | (simp;omega))),H1⟩) ?_
 refine ak dt ?_
 refine ak (have:=(H0.1).1;dt) ?_
 refine ct (Z105.aj ⟨H1,(bL.getD (z:=[]) H0.1 (by first | assumption | omega | (simp (disch:=omega) only [wi];omega) | (simp;omega)))⟩) ?_
 refine au ret (fun c3=>?_) (fun c3=>?_)
 ·refine au ret (fun _=>rfl) (fun c4=>?_)
  refine au ret (fun _=>rfl) (fun c5=>?_)
  refine au ret (fun _=>rfl) (fun _=>rfl)
 ·refine au ret (fun _=>rfl) (fun c7=>?_)
  refine au ret (fun _=>rfl) (fun _=>rfl)
def af:cw 123 aT:=W2 43 F mix aE bt (.cons Z75.af (.cons Z103.af (.cons Z105.af .nil))) Tryz.func123
def fa (a0:aq)(a1:List aa):(md a0 a1=3->1<=a1.length/\0<=Z103.md a0 (a1.getD 0 aa.zero).an.bC)/\(md a0 a1=5->1<=a1.length/\0<=Z103.md a0 (a1.getD 0 aa.zero).an.bC):=by
 unfold md
 cases h:Z75.md a1
 ·exact ⟨fun h=>by simp at h,fun h=>by simp at h⟩
 ·have t:=Z75.tr h
  cases hf:decide (Z103.md a0 ((a1.getD 0 aa.zero).an.bC)<0)
  ·have:=of_decide_eq_false hf
   exact ⟨fun _=>⟨t.1,by omega⟩,fun _=>⟨t.1,by omega⟩⟩
  ·exact ⟨fun h=>by simp at h,fun h=>by simp at h⟩
end Z106
end Go.DM
end
