/- What the functions compute that the law reaches, and that the law returns true. Conditions: none. -/
import Derived.Test.YtbojpakoeellaaaGreatResolveAllTy
import Derived.Test.YtbojpakoeellaaaGreatProg
import Derived.Lib.AppendZerosOnto
import Derived.Lib.Bytealg
import Derived.Laws.Externs
import Derived.Lib.Walk
import Derived.Lib.Hide
import Derived.Lib.Strings
set_option linter.all false
set_option maxRecDepth 100000
noncomputable section
namespace Go.DM
open Go.Proofs
open Go.IntKind (i64)
open Int (toNat)
open Nat (le_trans zero_le)
abbrev aC:=K.int .i64
abbrev bf:=ret (false:Bool)
abbrev eu:=ret (true:Bool)
abbrev eW (b:Int):Bool:=Nat.beq (toNat b) (toNat b)&&true
abbrev k7:List K:=[aC,aC,.bool,.int .u8]
abbrev f7:List Lf:=[fI,fI,fB,.rd (.int .u8)]
abbrev k8:List K:=[aC,aC,.bool,.int .u8]
abbrev f8:List Lf:=[fI,fI,fB,.rd (.int .u8)]
abbrev qX:List K:=[.str,.int .u64]
abbrev f13:List Lf:=[fS,.rd (.int .u64)]
abbrev rz:List K:=[.str,.int .u64]
abbrev f14:List Lf:=[fS,.rd (.int .u64)]
abbrev B6:List K:=[.sl 122,.sl 132]
abbrev f24:List Lf:=[.fr 122,.fr 132]
abbrev Bu:List K:=[.sl 122,.sl 132]
abbrev f25:List Lf:=[.fr 122,.fr 132]
abbrev Ca:List K:=[.sl 134,.sl 143]
abbrev f36:List Lf:=[.fr 134,.fr 143]
abbrev rT:List K:=[.sl 134,.sl 143]
abbrev f37:List Lf:=[.fr 134,.fr 143]
abbrev Cb:List K:=[.str,aC,aC,.sl 9]
abbrev f56:List Lf:=[fS,fI,fI,.fr 9]
abbrev rV:List K:=[.str,aC,aC,.sl 9]
abbrev f57:List Lf:=[fS,fI,fI,.fr 9]
abbrev B4:List K:=[.sl 134,.sl 143,aC,.str,aC,aC,.sl 9,.sl 3,aC]
abbrev f59:List Lf:=[.fr 134,.fr 143,fI,fS,fI,fI,.fr 9,.fr 3,fI]
abbrev BN:List K:=[.sl 134,.sl 143,aC,.str,aC,aC,.sl 9,.sl 3,aC]
abbrev f60:List Lf:=[.fr 134,.fr 143,fI,fS,fI,fI,.fr 9,.fr 3,fI]
abbrev B7:List K:=[.sl 183,aC]
abbrev f77:List Lf:=[.fr 183,fI]
abbrev BG:List K:=[.sl 183,aC]
abbrev f78:List Lf:=[.fr 183,fI]
abbrev B2:List K:=[.str,aC]
abbrev f80:List Lf:=[fS,fI]
abbrev BS:List K:=[.str,aC]
abbrev f81:List Lf:=[fS,fI]
abbrev Bx:List K:=[.str,aC]
abbrev f83:List Lf:=[fS,fI]
abbrev B3:List K:=[.sl 155,aC]
abbrev f87:List Lf:=[.fr 155,fI]
abbrev AZ:List K:=[.sl 155,aC]
abbrev f88:List Lf:=[.fr 155,fI]
abbrev BM:List K:=[.sl 134,.sl 143,.bool,.str,aC,aC,.sl 9,.bool,.sl 3]
abbrev f101:List Lf:=[.fr 134,.fr 143,fB,fS,fI,fI,.fr 9,fB,.fr 3]
abbrev AQ:List K:=[.sl 134,.sl 143,.bool,.str,aC,aC,.sl 9,.bool,.sl 3]
abbrev f102:List Lf:=[.fr 134,.fr 143,fB,fS,fI,fI,.fr 9,fB,.fr 3]
abbrev BC:List K:=[.str,aC]
abbrev f115:List Lf:=[fS,fI]
abbrev BX:List K:=[.str,aC]
abbrev f118:List Lf:=[fS,fI]
abbrev BA:List K:=[.sl 3,aC]
abbrev f124:List Lf:=[.fr 3,fI]
abbrev AI:List K:=[.sl 3,aC]
abbrev f125:List Lf:=[.fr 3,fI]
abbrev BB:List K:=[aC,aC,aC,aC,aC,aC,aC,aC,.sl 3,aC,.sl 3,aC,aC,.sl 3,aC,.bool]
abbrev f126:List Lf:=[fI,fI,fI,fI,fI,fI,fI,fI,.fr 3,fI,.fr 3,fI,fI,.fr 3,fI,fB]
abbrev Ai:List K:=[aC,aC,aC,aC,aC,aC,aC,aC,.sl 3,aC,.sl 3,aC,aC,.sl 3,aC,.bool]
abbrev f127:List Lf:=[fI,fI,fI,fI,fI,fI,fI,fI,.fr 3,fI,.fr 3,fI,fI,.fr 3,fI,fB]
abbrev BP:List K:=[aC,aC,aC,aC,aC,aC,aC,aC,.sl 3,aC,.sl 3,aC,aC,.sl 3,aC,.bool,.sl 238]
abbrev f129:List Lf:=[fI,fI,fI,fI,fI,fI,fI,fI,.fr 3,fI,.fr 3,fI,fI,.fr 3,fI,fB,.fr 238]
abbrev Au:List K:=[aC,aC,aC,aC,aC,aC,aC,aC,.sl 3,aC,.sl 3,aC,aC,.sl 3,aC,.bool,.sl 238]
abbrev f130:List Lf:=[fI,fI,fI,fI,fI,fI,fI,fI,.fr 3,fI,.fr 3,fI,fI,.fr 3,fI,fB,.fr 238]
abbrev BW:List K:=[aC,aC,aC,aC,aC,aC,aC,aC,.sl 3,aC,.sl 3,aC,aC,.sl 3,aC,.bool,.sl 238,aC,aC,aC,aC,aC,aC,aC,aC,.sl 3,aC,.sl 3,aC,aC,.sl 3,aC,.bool,.sl 238,aC,aC,aC,aC,aC,aC,aC,aC,.sl 3,aC,.sl 3,aC,aC,.sl 3,aC,.bool,.sl 238]
abbrev f131:List Lf:=[fI,fI,fI,fI,fI,fI,fI,fI,.fr 3,fI,.fr 3,fI,fI,.fr 3,fI,fB,.fr 238,fI,fI,fI,fI,fI,fI,fI,fI,.fr 3,fI,.fr 3,fI,fI,.fr 3,fI,fB,.fr 238,fI,fI,fI,fI,fI,fI,fI,fI,.fr 3,fI,.fr 3,fI,fI,.fr 3,fI,fB,.fr 238]
abbrev AE:List K:=[aC,aC,aC,aC,aC,aC,aC,aC,.sl 3,aC,.sl 3,aC,aC,.sl 3,aC,.bool,.sl 238,aC,aC,aC,aC,aC,aC,aC,aC,.sl 3,aC,.sl 3,aC,aC,.sl 3,aC,.bool,.sl 238,aC,aC,aC,aC,aC,aC,aC,aC,.sl 3,aC,.sl 3,aC,aC,.sl 3,aC,.bool,.sl 238]
abbrev f132:List Lf:=[fI,fI,fI,fI,fI,fI,fI,fI,.fr 3,fI,.fr 3,fI,fI,.fr 3,fI,fB,.fr 238,fI,fI,fI,fI,fI,fI,fI,fI,.fr 3,fI,.fr 3,fI,fI,.fr 3,fI,fB,.fr 238,fI,fI,fI,fI,fI,fI,fI,fI,.fr 3,fI,.fr 3,fI,fI,.fr 3,fI,fB,.fr 238]
abbrev iV:List K:=[.sl 3,aC]
abbrev f136:List Lf:=[.fr 3,fI]
abbrev BF:List K:=[aC,aC,aC,aC,aC,aC,aC,aC,.sl 3,aC,.sl 3,aC,aC,.sl 3,aC,.bool]
abbrev f137:List Lf:=[fI,fI,fI,fI,fI,fI,fI,fI,.fr 3,fI,.fr 3,fI,fI,.fr 3,fI,fB]
abbrev fX:List K:=[aC,aC,aC,aC,aC,aC,aC,aC,.sl 3,aC,.sl 3,aC,aC,.sl 3,aC,.bool]
abbrev f138:List Lf:=[fI,fI,fI,fI,fI,fI,fI,fI,.fr 3,fI,.fr 3,fI,fI,.fr 3,fI,fB]
abbrev BV:List K:=[aC,aC,aC,aC,aC,aC,aC,aC,.sl 3,aC,.sl 3,aC,aC,.sl 3,aC,.bool,.sl 190]
abbrev f140:List Lf:=[fI,fI,fI,fI,fI,fI,fI,fI,.fr 3,fI,.fr 3,fI,fI,.fr 3,fI,fB,.fr 190]
abbrev ku:List K:=[aC,aC,aC,aC,aC,aC,aC,aC,.sl 3,aC,.sl 3,aC,aC,.sl 3,aC,.bool,.sl 190]
abbrev f141:List Lf:=[fI,fI,fI,fI,fI,fI,fI,fI,.fr 3,fI,.fr 3,fI,fI,.fr 3,fI,fB,.fr 190]
abbrev By:List K:=[aC,aC,aC,aC,aC,aC,aC,aC,.sl 3,aC,.sl 3,aC,aC,.sl 3,aC,.bool,.sl 190,aC,aC,aC,aC,aC,aC,aC,aC,.sl 3,aC,.sl 3,aC,aC,.sl 3,aC,.bool,.sl 190,aC,aC,aC,aC,aC,aC,aC,aC,.sl 3,aC,.sl 3,aC,aC,.sl 3,aC,.bool,.sl 190]
abbrev f142:List Lf:=[fI,fI,fI,fI,fI,fI,fI,fI,.fr 3,fI,.fr 3,fI,fI,.fr 3,fI,fB,.fr 190,fI,fI,fI,fI,fI,fI,fI,fI,.fr 3,fI,.fr 3,fI,fI,.fr 3,fI,fB,.fr 190,fI,fI,fI,fI,fI,fI,fI,fI,.fr 3,fI,.fr 3,fI,fI,.fr 3,fI,fB,.fr 190]
abbrev sQ:List K:=[aC,aC,aC,aC,aC,aC,aC,aC,.sl 3,aC,.sl 3,aC,aC,.sl 3,aC,.bool,.sl 190,aC,aC,aC,aC,aC,aC,aC,aC,.sl 3,aC,.sl 3,aC,aC,.sl 3,aC,.bool,.sl 190,aC,aC,aC,aC,aC,aC,aC,aC,.sl 3,aC,.sl 3,aC,aC,.sl 3,aC,.bool,.sl 190]
abbrev f143:List Lf:=[fI,fI,fI,fI,fI,fI,fI,fI,.fr 3,fI,.fr 3,fI,fI,.fr 3,fI,fB,.fr 190,fI,fI,fI,fI,fI,fI,fI,fI,.fr 3,fI,.fr 3,fI,fI,.fr 3,fI,fB,.fr 190,fI,fI,fI,fI,fI,fI,fI,fI,.fr 3,fI,.fr 3,fI,fI,.fr 3,fI,fB,.fr 190]
abbrev BQ:List K:=[.sl 141,.sl 57]
abbrev f154:List Lf:=[.fr 141,.fr 57]
abbrev sX:List K:=[.sl 141,.sl 57]
abbrev f155:List Lf:=[.fr 141,.fr 57]
abbrev BY:List K:=[aC,.sl 3]
abbrev f160:List Lf:=[fI,.fr 3]
abbrev rm:List K:=[aC,.sl 3]
abbrev f161:List Lf:=[fI,.fr 3]
abbrev BD:List K:=[aC,.str,aC,aC,.sl 9,.str,aC,aC,.sl 9,aC,.sl 3,aC,.sl 3]
abbrev f162:List Lf:=[fI,fS,fI,fI,.fr 9,fS,fI,fI,.fr 9,fI,.fr 3,fI,.fr 3]
abbrev vQ:List K:=[aC,.str,aC,aC,.sl 9,.str,aC,aC,.sl 9,aC,.sl 3,aC,.sl 3]
abbrev f163:List Lf:=[fI,fS,fI,fI,.fr 9,fS,fI,fI,.fr 9,fI,.fr 3,fI,.fr 3]
abbrev BI:List K:=[.sl 141,.bool,.str,aC,aC,.sl 9,aC,.sl 3,aC,.str,aC,aC,.sl 9,.str,aC,aC,.sl 9,aC,.sl 3,aC,.sl 3]
abbrev f164:List Lf:=[.fr 141,fB,fS,fI,fI,.fr 9,fI,.fr 3,fI,fS,fI,fI,.fr 9,fS,fI,fI,.fr 9,fI,.fr 3,fI,.fr 3]
abbrev yu:List K:=[.sl 141,.bool,.str,aC,aC,.sl 9,aC,.sl 3,aC,.str,aC,aC,.sl 9,.str,aC,aC,.sl 9,aC,.sl 3,aC,.sl 3]
abbrev f165:List Lf:=[.fr 141,fB,fS,fI,fI,.fr 9,fI,.fr 3,fI,fS,fI,fI,.fr 9,fS,fI,fI,.fr 9,fI,.fr 3,fI,.fr 3]
abbrev BJ:List K:=[.sl 130,.sl 235]
abbrev f182:List Lf:=[.fr 130,.fr 235]
abbrev Av:List K:=[.sl 130,.sl 235]
abbrev f183:List Lf:=[.fr 130,.fr 235]
abbrev BH:List K:=[aC,aC]
abbrev f189:List Lf:=[fI,fI]
abbrev yC:List K:=[aC,aC]
abbrev f190:List Lf:=[fI,fI]
abbrev Aw:List K:=[.str,aC,aC,.sl 9]
abbrev f235:List Lf:=[fS,fI,fI,.fr 9]
abbrev Bl:List K:=[aC,aC]
abbrev f238:List Lf:=[fI,fI]
def jV:List (Nat×TI):=[
 (2,⟨[aC],false,[],8,false⟩),
 (3,⟨[aC],false,[],8,false⟩),
 (4,⟨[.bool],false,[],1,false⟩),
 (5,⟨[.int .u8],false,[],1,false⟩),
 (6,⟨[.int .u8],false,[],1,false⟩),
 (7,⟨k7,true,[(0,2),(1,3),(2,4),(3,6)],24,false⟩),
 (8,⟨k8,true,[(0,2),(1,3),(2,4),(3,6)],24,false⟩),
 (9,⟨[.str],false,[],16,false⟩),
 (10,⟨[.str],false,[],16,false⟩),
 (11,⟨[.str],false,[],16,false⟩),
 (12,⟨[.int .u64],false,[],8,false⟩),
 (13,⟨qX,true,[(0,9),(1,12)],24,false⟩),
 (14,⟨rz,true,[(0,9),(1,12)],24,false⟩),
 (21,⟨[.int .i32],false,[],4,false⟩),
 (22,⟨[.sl 122],false,[],24,false⟩),
 (23,⟨[.sl 132],false,[],24,false⟩),
 (24,⟨B6,true,[(0,22),(1,23)],48,false⟩),
 (25,⟨Bu,true,[(0,22),(1,23)],48,false⟩),
 (26,⟨[.sl 78],false,[],24,false⟩),
 (27,⟨[.sl 81],false,[],24,false⟩),
 (28,⟨[.sl 9],false,[],24,false⟩),
 (33,⟨[.sl 60],false,[],24,false⟩),
 (34,⟨[.sl 134],false,[],24,false⟩),
 (35,⟨[.sl 143],false,[],24,false⟩),
 (36,⟨Ca,true,[(0,34),(1,35)],48,false⟩),
 (37,⟨rT,true,[(0,34),(1,35)],48,false⟩),
 (41,⟨[.sl 88],false,[],24,false⟩),
 (43,⟨[.sl 83],false,[],24,false⟩),
 (56,⟨Cb,true,[(0,9),(1,3),(2,3),(3,28)],56,false⟩),
 (57,⟨rV,true,[(0,9),(1,3),(2,3),(3,28)],56,false⟩),
 (58,⟨[.sl 3],false,[],24,false⟩),
 (59,⟨B4,true,[(0,37),(2,3),(3,57),(7,58),(8,3)],144,false⟩),
 (60,⟨BN,true,[(0,37),(2,3),(3,57),(7,58),(8,3)],144,false⟩),
 (65,⟨[.sl 115],false,[],24,false⟩),
 (68,⟨[.sl 118],false,[],24,false⟩),
 (76,⟨[.sl 183],false,[],24,false⟩),
 (77,⟨B7,true,[(0,76),(1,3)],32,false⟩),
 (78,⟨BG,true,[(0,76),(1,3)],32,false⟩),
 (80,⟨B2,true,[(0,9),(1,3)],24,false⟩),
 (81,⟨BS,true,[(0,9),(1,3)],24,true⟩),
 (83,⟨Bx,true,[(0,9),(1,3)],24,true⟩),
 (86,⟨[.sl 155],false,[],24,false⟩),
 (87,⟨B3,true,[(0,86),(1,3)],32,false⟩),
 (88,⟨AZ,true,[(0,86),(1,3)],32,false⟩),
 (101,⟨BM,true,[(0,37),(2,4),(3,57),(7,4),(8,58)],144,false⟩),
 (102,⟨AQ,true,[(0,37),(2,4),(3,57),(7,4),(8,58)],144,false⟩),
 (104,⟨[.sl 165],false,[],24,false⟩),
 (115,⟨BC,true,[(0,9),(1,3)],24,true⟩),
 (118,⟨BX,true,[(0,9),(1,3)],24,true⟩),
 (122,⟨[.sl 130],false,[],24,false⟩),
 (124,⟨BA,true,[(0,58),(1,3)],32,false⟩),
 (125,⟨AI,true,[(0,58),(1,3)],32,false⟩),
 (126,⟨BB,true,[(0,3),(1,3),(2,3),(3,3),(4,3),(5,3),(6,3),(7,3),(8,125),(10,125),(12,3),(13,125),(15,4)],176,false⟩),
 (127,⟨Ai,true,[(0,3),(1,3),(2,3),(3,3),(4,3),(5,3),(6,3),(7,3),(8,125),(10,125),(12,3),(13,125),(15,4)],176,false⟩),
 (128,⟨[.sl 238],false,[],24,false⟩),
 (129,⟨BP,true,[(0,127),(16,128)],200,false⟩),
 (130,⟨Au,true,[(0,127),(16,128)],200,false⟩),
 (131,⟨BW,true,[(0,130),(17,130),(34,130)],600,false⟩),
 (132,⟨AE,true,[(0,130),(17,130),(34,130)],600,false⟩),
 (134,⟨[.sl 141],false,[],24,false⟩),
 (136,⟨iV,true,[(0,58),(1,3)],32,false⟩),
 (137,⟨BF,true,[(0,3),(1,3),(2,3),(3,3),(4,3),(5,3),(6,3),(7,3),(8,136),(10,136),(12,3),(13,136),(15,4)],176,false⟩),
 (138,⟨fX,true,[(0,3),(1,3),(2,3),(3,3),(4,3),(5,3),(6,3),(7,3),(8,136),(10,136),(12,3),(13,136),(15,4)],176,false⟩),
 (139,⟨[.sl 190],false,[],24,false⟩),
 (140,⟨BV,true,[(0,138),(16,139)],200,false⟩),
 (141,⟨ku,true,[(0,138),(16,139)],200,false⟩),
 (142,⟨By,true,[(0,141),(17,141),(34,141)],600,false⟩),
 (143,⟨sQ,true,[(0,141),(17,141),(34,141)],600,false⟩),
 (153,⟨[.sl 57],false,[],24,false⟩),
 (154,⟨BQ,true,[(0,134),(1,153)],48,false⟩),
 (155,⟨sX,true,[(0,134),(1,153)],48,false⟩),
 (157,⟨[.sl 5],false,[],24,false⟩),
 (160,⟨BY,true,[(0,3),(1,58)],32,false⟩),
 (161,⟨rm,true,[(0,3),(1,58)],32,false⟩),
 (162,⟨BD,true,[(0,3),(1,57),(5,57),(9,161),(11,161)],184,false⟩),
 (163,⟨vQ,true,[(0,3),(1,57),(5,57),(9,161),(11,161)],184,false⟩),
 (164,⟨BI,true,[(0,134),(1,4),(2,57),(6,161),(8,163)],304,false⟩),
 (165,⟨yu,true,[(0,134),(1,4),(2,57),(6,161),(8,163)],304,false⟩),
 (181,⟨[.sl 235],false,[],24,false⟩),
 (182,⟨BJ,true,[(0,122),(1,181)],48,false⟩),
 (183,⟨Av,true,[(0,122),(1,181)],48,false⟩),
 (189,⟨BH,true,[(0,3),(1,3)],16,false⟩),
 (190,⟨yC,true,[(0,3),(1,3)],16,true⟩),
 (235,⟨Aw,true,[(0,9),(1,3),(2,3),(3,28)],56,false⟩),
 (238,⟨Bl,true,[(0,3),(1,3)],16,true⟩),
 (286,⟨[.sl 58],false,[],24,false⟩),
 (297,⟨[.int .u32],false,[],4,false⟩),
 (298,⟨[.int .u8],false,[],1,false⟩),
 (299,⟨[.int .u8],false,[],1,false⟩),
 (302,⟨[.int .i32],false,[],4,false⟩),
 (303,⟨[.int .i32],false,[],4,false⟩)]
abbrev Ev:Env:=dG jV
def aE:eM Tryz.prog jV=true:=by kernel_rfl
def mix:Tryz.prog.follows .mixedOrders=true:=by kernel_rfl
abbrev cD:=Valid Tryz.prog Ev
namespace Z0
def F (x0:aB)(x1:Int):aJ:=(cond (decide ((i64.wrap (x1 - (x0.length:Int)))<0)) (ret ((-1):Int)) (ret ((i64.wrap (x1 - (x0.length:Int))):Int)))
def md (a0:List Int)(a1:Int):Int:=iE (dJ (fun y:Int=>0) a0) a1
def gd (a0:List Int)(a1:Int):Prop:=(bM maxLen (fun y:Int=>True) a0)/\0<=a1/\a1<=1048576
def R:=RR (p2 gd) (u2 md)
def an {a0 a1}(h:gd a0 a1):R ((a0.map bq),a1)=some (md a0 a1):=aP (a:=(a0,a1)) h
def aU:=CN [pL 3,pI] oI RT.dec R
def bA (a0)(a1)(hg:gd a0 a1):F (a0.map bq) a1=ret (md a0 a1):=by
 obtain ⟨hs,g0,g1⟩:=hg
 unfold F md
 rw [List.length_map,lO g0 g1 hs.1]
 have e:dJ (fun y:Int=>0) a0=a0.length:=by
  unfold dJ
  have :(a0.map (fun y:Int=>0)).sum=0:=qD (fun _=>rfl) a0
  omega
 rw [e]
 by_cases hc:a1<((a0.length:Nat):Int)
 ·rw [cO hc,decide_eq_true (by omega)];rfl
 ·rw [dm hc,decide_eq_false (by omega)];rfl
def af:cD 223 aU:=W2 12 F mix aE bA .nil Tryz.func223
end Z0
namespace Z1
def F (x0:bE)(x1:Int):aJ:=(call (Z0.R (x0.aX,x1)) fun v1=>(cond (decide (v1<0)) (ret ((-1):Int)) (ret (v1:Int))))
def md (a0:aO)(a1:Int):Int:=iE (aO.size a0) a1
def gd (a0:aO)(a1:Int):Prop:=(aO.Sm maxLen a0)/\0<=a1/\a1<=1048576
def R:=RR (p2 gd) (u2 md)
def an {a0 a1}(h:gd a0 a1):R ((aO.r a0),a1)=some (md a0 a1):=aP (a:=(a0,a1)) h
def aU:=CN [.agg AI,pI] oI RT.dec R
def bA (a0)(a1)(hg:gd a0 a1):F (aO.r a0) a1=ret (md a0 a1):=by
 obtain ⟨hs,g0,g1⟩:=hg
 unfold md
 show (call (Z0.R ((a0.aX.map bq),a1)) fun v1=>(cond (decide (v1<0)) (ret ((-1):Int)) (ret (v1:Int))))=_
 rw [call_eq (Z0.an (a1:=a1) ⟨hs,by omega,by omega⟩)]
 unfold Z0.md
 by_cases c0:a1<((dJ (fun y:Int=>0) a0.aX:Nat):Int)
 ·rw [cO c0];rw [show iE (aO.size a0) a1=-1 from cO (by unfold aO.size;omega)];try rfl
 rw [dm c0,dc (by omega),bu]
 rw [show iE (aO.size a0) a1=a1 - ((dJ (fun y:Int=>0) a0.aX:Nat):Int) from by rw [dm (by unfold aO.size;omega)];unfold aO.size;omega]
def af:cD 179 aU:=W2 12 F mix aE bA (.cons Z0.af .nil) Tryz.func179
end Z1
namespace Z2
def F (x0:cg)(x1:Int):aJ:=(call (Z1.R (x0.bR,x1)) fun v1=>(cond (decide (v1<0)) (ret ((-1):Int)) (call (Z1.R (x0.bD,v1)) fun v2=>(cond (decide (v2<0)) (ret ((-1):Int)) (call (Z1.R (x0.bB,v2)) fun v3=>(cond (decide (v3<0)) (ret ((-1):Int)) (ret (v3:Int))))))))
def md (a0:aF)(a1:Int):Int:=iE (aF.size a0) a1
def gd (a0:aF)(a1:Int):Prop:=(aF.Sm maxLen a0)/\0<=a1/\a1<=1048576
def R:=RR (p2 gd) (u2 md)
def an {a0 a1}(h:gd a0 a1):R ((aF.r a0),a1)=some (md a0 a1):=aP (a:=(a0,a1)) h
def aU:=CN [.agg Ai,pI] oI RT.dec R
def bA (a0)(a1)(hg:gd a0 a1):F (aF.r a0) a1=ret (md a0 a1):=by
 obtain ⟨hs,g0,g1⟩:=hg
 unfold md
 show (call (Z1.R ((aO.r a0.bR),a1)) fun v1=>(bif (decide (v1<0)) then ret ((-1):Int) else (call (Z1.R ((aO.r a0.bD),v1)) fun v2=>(bif (decide (v2<0)) then ret ((-1):Int) else (call (Z1.R ((aO.r a0.bB),v2)) fun v3=>(cond (decide (v3<0)) (ret ((-1):Int)) (ret (v3:Int))))))))=_
 rw [call_eq (Z1.an (a1:=a1) ⟨hs.1,by omega,by omega⟩)]
 unfold Z1.md
 by_cases c0:a1<((aO.size a0.bR:Nat):Int)
 ·rw [cO c0];rw [show iE (aF.size a0) a1=-1 from cO (by unfold aF.size;omega)];try rfl
 rw [dm c0,dc (by omega),bu]
 rw [call_eq (Z1.an (a1:=(a1 - ((aO.size a0.bR:Nat):Int))) ⟨hs.2.1,by omega,by omega⟩)]
 unfold Z1.md
 by_cases c1:(a1 - ((aO.size a0.bR:Nat):Int))<((aO.size a0.bD:Nat):Int)
 ·rw [cO c1];rw [show iE (aF.size a0) a1=-1 from cO (by unfold aF.size;omega)];try rfl
 rw [dm c1,dc (by omega),bu]
 rw [call_eq (Z1.an (a1:=(a1 - ((aO.size a0.bR:Nat):Int) - ((aO.size a0.bD:Nat):Int))) ⟨hs.2.2,by omega,by omega⟩)]
 unfold Z1.md
 by_cases c2:(a1 - ((aO.size a0.bR:Nat):Int) - ((aO.size a0.bD:Nat):Int))<((aO.size a0.bB:Nat):Int)
 ·rw [cO c2];rw [show iE (aF.size a0) a1=-1 from cO (by unfold aF.size;omega)];try rfl
 rw [dm c2,dc (by omega),bu]
 rw [show iE (aF.size a0) a1=a1 - ((aO.size a0.bR:Nat):Int) - ((aO.size a0.bD:Nat):Int) - ((aO.size a0.bB:Nat):Int) from by rw [dm (by unfold aF.size;omega)];unfold aF.size;omega]
def af:cD 142 aU:=W2 24 F mix aE bA (.cons Z1.af .nil) Tryz.func142
end Z2
namespace Z3
def F (x0:aB)(x1:Int):aJ:=(cond (decide ((i64.wrap (x1 - (x0.length:Int)))<0)) (ret ((-1):Int)) (ret ((i64.wrap (x1 - (x0.length:Int))):Int)))
def md (a0:List bt)(a1:Int):Int:=iE (dJ (fun y:bt=>bt.size y) a0) a1
def gd (a0:List bt)(a1:Int):Prop:=(bM maxLen (fun y:bt=>bt.Sm maxLen y) a0)/\0<=a1/\a1<=1048576
def R:=RR (p2 gd) (u2 md)
def an {a0 a1}(h:gd a0 a1):R ((a0.map bt.row),a1)=some (md a0 a1):=aP (a:=(a0,a1)) h
def aU:=CN [pL 238,pI] oI RT.dec R
def bA (a0)(a1)(hg:gd a0 a1):F (a0.map bt.row) a1=ret (md a0 a1):=by
 obtain ⟨hs,g0,g1⟩:=hg
 unfold F md
 rw [List.length_map,lO g0 g1 hs.1]
 have e:dJ (fun y:bt=>bt.size y) a0=a0.length:=by
  unfold dJ
  have :(a0.map (fun y:bt=>bt.size y)).sum=0:=qD (fun _=>rfl) a0
  omega
 rw [e]
 by_cases hc:a1<((a0.length:Nat):Int)
 ·rw [cO hc,decide_eq_true (by omega)];rfl
 ·rw [dm hc,decide_eq_false (by omega)];rfl
def af:cD 143 aU:=W2 12 F mix aE bA .nil Tryz.func143
end Z3
namespace Z4
def F (x0:aR)(x1:Int):aJ:=(call (Z2.R (x0.aq,x1)) fun v1=>(cond (decide (v1<0)) (ret ((-1):Int)) (call (Z3.R (x0.cm,v1)) fun v2=>(cond (decide (v2<0)) (ret ((-1):Int)) (ret (v2:Int))))))
def md (a0:aa)(a1:Int):Int:=iE (aa.size a0) a1
def gd (a0:aa)(a1:Int):Prop:=(aa.Sm maxLen a0)/\0<=a1/\a1<=1048576
def R:=RR (p2 gd) (u2 md)
def an {a0 a1}(h:gd a0 a1):R ((aa.r a0),a1)=some (md a0 a1):=aP (a:=(a0,a1)) h
def aU:=CN [.agg Au,pI] oI RT.dec R
def bA (a0)(a1)(hg:gd a0 a1):F (aa.r a0) a1=ret (md a0 a1):=by
 obtain ⟨hs,g0,g1⟩:=hg
 unfold md
 show (call (Z2.R ((aF.r a0.aq),a1)) fun v1=>(bif (decide (v1<0)) then ret ((-1):Int) else (call (Z3.R ((a0.cm.map bt.row),v1)) fun v2=>(cond (decide (v2<0)) (ret ((-1):Int)) (ret (v2:Int))))))=_
 rw [call_eq (Z2.an (a1:=a1) ⟨hs.1,by omega,by omega⟩)]
 unfold Z2.md
 by_cases c0:a1<((aF.size a0.aq:Nat):Int)
 ·rw [cO c0];rw [show iE (aa.size a0) a1=-1 from cO (by unfold aa.size;omega)];try rfl
 rw [dm c0,dc (by omega),bu]
 rw [call_eq (Z3.an (a1:=(a1 - ((aF.size a0.aq:Nat):Int))) ⟨hs.2,by omega,by omega⟩)]
 unfold Z3.md
 by_cases c1:(a1 - ((aF.size a0.aq:Nat):Int))<((dJ (fun y:bt=>bt.size y) a0.cm:Nat):Int)
 ·rw [cO c1];rw [show iE (aa.size a0) a1=-1 from cO (by unfold aa.size;omega)];try rfl
 rw [dm c1,dc (by omega),bu]
 rw [show iE (aa.size a0) a1=a1 - ((aF.size a0.aq:Nat):Int) - ((dJ (fun y:bt=>bt.size y) a0.cm:Nat):Int) from by rw [dm (by unfold aa.size;omega)];unfold aa.size;omega]
def af:cD 113 aU:=W2 18 F mix aE bA (.cons Z2.af (.cons Z3.af .nil)) Tryz.func113
end Z4
namespace Z5
inductive Pt where
 | p0 (a:aB) (b c:Int)
def pid:Pt->Nat
 | .p0 ..=>5
def bY:Pt->List V
 | .p0 a b c=>[.sl none 130 a,.int .i64 b,.int .i64 c]
def bX:Pt->List aV
 | .p0 a b c=>[]
def step (J:Pt->aJ):Pt->aJ
 | .p0 a b c=>(cond (decide (c<(a.length:Int))) (m2 c (a.length:Int) (call (Z4.R ((aR.at a (toNat c)),b)) fun v1=>(cond (decide (v1<0)) (ret ((-1):Int)) (J (.p0 a v1 (i64.wrap (c+1))))))) (ret (b:Int)))
def start (J:Pt->aJ)(x0:aB)(x1:Int):aJ:=(cond (decide ((i64.wrap (x1 - (x0.length:Int)))<0)) (ret ((-1):Int)) (J (.p0 x0 (i64.wrap (x1 - (x0.length:Int))) 0)))
def live:Nat->Live:=fun i=>match i with | 5=>[(0,none),(1,none),(5,none)] | _=>[]
def md (a0:List aa)(a1:Int):Int:=iE (dJ (fun y:aa=>aa.size y) a0) a1
def gd (a0:List aa)(a1:Int):Prop:=(bM maxLen (fun y:aa=>aa.Sm maxLen y) a0)/\0<=a1/\a1<=1048576
def R:=RR (p2 gd) (u2 md)
def an {a0 a1}(h:gd a0 a1):R ((a0.map aa.row),a1)=some (md a0 a1):=aP (a:=(a0,a1)) h
def aU:=CN [pL 130,pI] oI RT.dec R
def bA (a0)(a1)(hg:gd a0 a1):∃n,start (iter step n) (a0.map aa.row) a1=ret (md a0 a1):=by
 obtain ⟨hs,g0,g1⟩:=hg
 unfold start md
 simp only [List.length_map]
 refine jC (pt:=fun left i=>Pt.p0 (a0.map aa.row) left (i:Int)) (f:=fun y:aa=>aa.size y) hs.1 (fun J i h left p0 p1=>?_) (fun J left=>?_) g0 g1
 ·simp only [step,MM,List.length_map,aK h,aI,bh,cz,aa.dV h]
  rw [call_eq (Z4.an ⟨hs.get h,p0,p1⟩),aH h hs.1]
  unfold Z4.md
  by_cases hc:left<((aa.size (a0[i]):Nat):Int)
  ·rw [cO hc,if_pos hc];rfl
  ·rw [dm hc,if_neg hc,dc (by omega)];rfl
 ·simp only [step,List.length_map,dR,bu]
def af:cD 81 aU:=L2 27 pid bY bX live step start mix aE bA (.cons Z4.af .nil) Tryz.func81
end Z5
namespace Z6
inductive Pt where
 | p0 (a:aB) (b c:Int)
def pid:Pt->Nat
 | .p0 ..=>5
def bY:Pt->List V
 | .p0 a b c=>[.sl none 122 a,.int .i64 b,.int .i64 c]
def bX:Pt->List aV
 | .p0 a b c=>[]
def step (J:Pt->aJ):Pt->aJ
 | .p0 a b c=>(cond (decide (c<(a.length:Int))) (m2 c (a.length:Int) (call (Z5.R ((oq a (toNat c)),b)) fun v1=>(cond (decide (v1<0)) (ret ((-1):Int)) (J (.p0 a v1 (i64.wrap (c+1))))))) (ret (b:Int)))
def start (J:Pt->aJ)(x0:aB)(x1:Int):aJ:=(cond (decide ((i64.wrap (x1 - (x0.length:Int)))<0)) (ret ((-1):Int)) (J (.p0 x0 (i64.wrap (x1 - (x0.length:Int))) 0)))
def live:Nat->Live:=fun i=>match i with | 5=>[(0,none),(1,none),(5,none)] | _=>[]
def md (a0:List (List aa))(a1:Int):Int:=iE (dJ (fun y:List aa=>dJ (fun y:aa=>aa.size y) y) a0) a1
def gd (a0:List (List aa))(a1:Int):Prop:=(bM maxLen (fun y:List aa=>bM maxLen (fun y:aa=>aa.Sm maxLen y) y) a0)/\0<=a1/\a1<=1048576
def R:=RR (p2 gd) (u2 md)
def an {a0 a1}(h:gd a0 a1):R ((a0.map (dI aa.row)),a1)=some (md a0 a1):=aP (a:=(a0,a1)) h
def aU:=CN [pL 122,pI] oI RT.dec R
def bA (a0)(a1)(hg:gd a0 a1):∃n,start (iter step n) (a0.map (dI aa.row)) a1=ret (md a0 a1):=by
 obtain ⟨hs,g0,g1⟩:=hg
 unfold start md
 simp only [List.length_map]
 refine jC (pt:=fun left i=>Pt.p0 (a0.map (dI aa.row)) left (i:Int)) (f:=fun y:List aa=>dJ (fun y:aa=>aa.size y) y) hs.1 (fun J i h left p0 p1=>?_) (fun J left=>?_) g0 g1
 ·simp only [step,MM,List.length_map,aK h,aI,bh,cz,pT h]
  rw [call_eq (Z5.an ⟨hs.get h,p0,p1⟩),aH h hs.1]
  unfold Z5.md
  by_cases hc:left<((dJ (fun y:aa=>aa.size y) (a0[i]):Nat):Int)
  ·rw [cO hc,if_pos hc];rfl
  ·rw [dm hc,if_neg hc,dc (by omega)];rfl
 ·simp only [step,List.length_map,dR,bu]
def af:cD 39 aU:=L2 27 pid bY bX live step start mix aE bA (.cons Z5.af .nil) Tryz.func39
end Z6
namespace Z7
def F (x0:bJ)(x1:Int):aJ:=(call (Z4.R (x0.aS,x1)) fun v1=>(cond (decide (v1<0)) (ret ((-1):Int)) (call (Z4.R (x0.fA,v1)) fun v2=>(cond (decide (v2<0)) (ret ((-1):Int)) (call (Z4.R (x0.fB,v2)) fun v3=>(cond (decide (v3<0)) (ret ((-1):Int)) (ret (v3:Int))))))))
def md (a0:az)(a1:Int):Int:=iE (az.size a0) a1
def gd (a0:az)(a1:Int):Prop:=(az.Sm maxLen a0)/\0<=a1/\a1<=1048576
def R:=RR (p2 gd) (u2 md)
def an {a0 a1}(h:gd a0 a1):R ((az.r a0),a1)=some (md a0 a1):=aP (a:=(a0,a1)) h
def aU:=CN [.agg AE,pI] oI RT.dec R
def bA (a0)(a1)(hg:gd a0 a1):F (az.r a0) a1=ret (md a0 a1):=by
 obtain ⟨hs,g0,g1⟩:=hg
 unfold md
 show (call (Z4.R ((aa.r a0.aS),a1)) fun v1=>(bif (decide (v1<0)) then ret ((-1):Int) else (call (Z4.R ((aa.r a0.fA),v1)) fun v2=>(bif (decide (v2<0)) then ret ((-1):Int) else (call (Z4.R ((aa.r a0.fB),v2)) fun v3=>(cond (decide (v3<0)) (ret ((-1):Int)) (ret (v3:Int))))))))=_
 rw [call_eq (Z4.an (a1:=a1) ⟨hs.1,by omega,by omega⟩)]
 unfold Z4.md
 by_cases c0:a1<((aa.size a0.aS:Nat):Int)
 ·rw [cO c0];rw [show iE (az.size a0) a1=-1 from cO (by unfold az.size;omega)];try rfl
 rw [dm c0,dc (by omega),bu]
 rw [call_eq (Z4.an (a1:=(a1 - ((aa.size a0.aS:Nat):Int))) ⟨hs.2.1,by omega,by omega⟩)]
 unfold Z4.md
 by_cases c1:(a1 - ((aa.size a0.aS:Nat):Int))<((aa.size a0.fA:Nat):Int)
 ·rw [cO c1];rw [show iE (az.size a0) a1=-1 from cO (by unfold az.size;omega)];try rfl
 rw [dm c1,dc (by omega),bu]
 rw [call_eq (Z4.an (a1:=(a1 - ((aa.size a0.aS:Nat):Int) - ((aa.size a0.fA:Nat):Int))) ⟨hs.2.2,by omega,by omega⟩)]
 unfold Z4.md
 by_cases c2:(a1 - ((aa.size a0.aS:Nat):Int) - ((aa.size a0.fA:Nat):Int))<((aa.size a0.fB:Nat):Int)
 ·rw [cO c2];rw [show iE (az.size a0) a1=-1 from cO (by unfold az.size;omega)];try rfl
 rw [dm c2,dc (by omega),bu]
 rw [show iE (az.size a0) a1=a1 - ((aa.size a0.aS:Nat):Int) - ((aa.size a0.fA:Nat):Int) - ((aa.size a0.fB:Nat):Int) from by rw [dm (by unfold az.size;omega)];unfold az.size;omega]
def af:cD 82 aU:=W2 24 F mix aE bA (.cons Z4.af .nil) Tryz.func82
end Z7
namespace Z8
inductive Pt where
 | p0 (a:aB) (b c:Int)
def pid:Pt->Nat
 | .p0 ..=>5
def bY:Pt->List V
 | .p0 a b c=>[.sl none 132 a,.int .i64 b,.int .i64 c]
def bX:Pt->List aV
 | .p0 a b c=>[]
def step (J:Pt->aJ):Pt->aJ
 | .p0 a b c=>(cond (decide (c<(a.length:Int))) (m2 c (a.length:Int) (call (Z7.R ((bJ.at a (toNat c)),b)) fun v1=>(cond (decide (v1<0)) (ret ((-1):Int)) (J (.p0 a v1 (i64.wrap (c+1))))))) (ret (b:Int)))
def start (J:Pt->aJ)(x0:aB)(x1:Int):aJ:=(cond (decide ((i64.wrap (x1 - (x0.length:Int)))<0)) (ret ((-1):Int)) (J (.p0 x0 (i64.wrap (x1 - (x0.length:Int))) 0)))
def live:Nat->Live:=fun i=>match i with | 5=>[(0,none),(1,none),(5,none)] | _=>[]
def md (a0:List az)(a1:Int):Int:=iE (dJ (fun y:az=>az.size y) a0) a1
def gd (a0:List az)(a1:Int):Prop:=(bM maxLen (fun y:az=>az.Sm maxLen y) a0)/\0<=a1/\a1<=1048576
def R:=RR (p2 gd) (u2 md)
def an {a0 a1}(h:gd a0 a1):R ((a0.map az.row),a1)=some (md a0 a1):=aP (a:=(a0,a1)) h
def aU:=CN [pL 132,pI] oI RT.dec R
def bA (a0)(a1)(hg:gd a0 a1):∃n,start (iter step n) (a0.map az.row) a1=ret (md a0 a1):=by
 obtain ⟨hs,g0,g1⟩:=hg
 unfold start md
 simp only [List.length_map]
 refine jC (pt:=fun left i=>Pt.p0 (a0.map az.row) left (i:Int)) (f:=fun y:az=>az.size y) hs.1 (fun J i h left p0 p1=>?_) (fun J left=>?_) g0 g1
 ·simp only [step,MM,List.length_map,aK h,aI,bh,cz,az.dV h]
  rw [call_eq (Z7.an ⟨hs.get h,p0,p1⟩),aH h hs.1]
  unfold Z7.md
  by_cases hc:left<((az.size (a0[i]):Nat):Int)
  ·rw [cO hc,if_pos hc];rfl
  ·rw [dm hc,if_neg hc,dc (by omega)];rfl
 ·simp only [step,List.length_map,dR,bu]
def af:cD 40 aU:=L2 27 pid bY bX live step start mix aE bA (.cons Z7.af .nil) Tryz.func40
end Z8
namespace Z9
def F (x0:bn)(x1:Int):aJ:=(call (Z6.R (x0.aG,x1)) fun v1=>(cond (decide (v1<0)) (ret ((-1):Int)) (call (Z8.R (x0.aW,v1)) fun v2=>(cond (decide (v2<0)) (ret ((-1):Int)) (ret (v2:Int))))))
def md (a0:aj)(a1:Int):Int:=iE (aj.size a0) a1
def gd (a0:aj)(a1:Int):Prop:=(aj.Sm maxLen a0)/\0<=a1/\a1<=1048576
def R:=RR (p2 gd) (u2 md)
def an {a0 a1}(h:gd a0 a1):R ((aj.r a0),a1)=some (md a0 a1):=aP (a:=(a0,a1)) h
def aU:=CN [.agg Bu,pI] oI RT.dec R
def bA (a0)(a1)(hg:gd a0 a1):F (aj.r a0) a1=ret (md a0 a1):=by
 obtain ⟨hs,g0,g1⟩:=hg
 unfold md
 show (call (Z6.R ((a0.aG.map (dI aa.row)),a1)) fun v1=>(bif (decide (v1<0)) then ret ((-1):Int) else (call (Z8.R ((a0.aW.map az.row),v1)) fun v2=>(cond (decide (v2<0)) (ret ((-1):Int)) (ret (v2:Int))))))=_
 rw [call_eq (Z6.an (a1:=a1) ⟨hs.1,by omega,by omega⟩)]
 unfold Z6.md
 by_cases c0:a1<((dJ (fun y:List aa=>dJ (fun y:aa=>aa.size y) y) a0.aG:Nat):Int)
 ·rw [cO c0];rw [show iE (aj.size a0) a1=-1 from cO (by unfold aj.size;omega)];try rfl
 rw [dm c0,dc (by omega),bu]
 rw [call_eq (Z8.an (a1:=(a1 - ((dJ (fun y:List aa=>dJ (fun y:aa=>aa.size y) y) a0.aG:Nat):Int))) ⟨hs.2,by omega,by omega⟩)]
 unfold Z8.md
 by_cases c1:(a1 - ((dJ (fun y:List aa=>dJ (fun y:aa=>aa.size y) y) a0.aG:Nat):Int))<((dJ (fun y:az=>az.size y) a0.aW:Nat):Int)
 ·rw [cO c1];rw [show iE (aj.size a0) a1=-1 from cO (by unfold aj.size;omega)];try rfl
 rw [dm c1,dc (by omega),bu]
 rw [show iE (aj.size a0) a1=a1 - ((dJ (fun y:List aa=>dJ (fun y:aa=>aa.size y) y) a0.aG:Nat):Int) - ((dJ (fun y:az=>az.size y) a0.aW:Nat):Int) from by rw [dm (by unfold aj.size;omega)];unfold aj.size;omega]
def af:cD 6 aU:=W2 18 F mix aE bA (.cons Z6.af (.cons Z8.af .nil)) Tryz.func6
end Z9
namespace Z10
inductive Pt where
 | p0 (a:aB) (b c:Int)
def pid:Pt->Nat
 | .p0 ..=>5
def bY:Pt->List V
 | .p0 a b c=>[.sl none 9 a,.int .i64 b,.int .i64 c]
def bX:Pt->List aV
 | .p0 a b c=>[]
def step (J:Pt->aJ):Pt->aJ
 | .p0 a b c=>(cond (decide (c<(a.length:Int))) (m2 c (a.length:Int) (cond (decide ((i64.wrap (b - ((pV a (toNat c)).size:Int)))<0)) (ret ((-1):Int)) (J (.p0 a (i64.wrap (b - ((pV a (toNat c)).size:Int))) (i64.wrap (c+1)))))) (ret (b:Int)))
def start (J:Pt->aJ)(x0:aB)(x1:Int):aJ:=(cond (decide ((i64.wrap (x1 - (x0.length:Int)))<0)) (ret ((-1):Int)) (J (.p0 x0 (i64.wrap (x1 - (x0.length:Int))) 0)))
def live:Nat->Live:=fun i=>match i with | 5=>[(0,none),(1,none),(5,none)] | _=>[]
def md (a0:List aD)(a1:Int):Int:=iE (dJ (fun y:aD=>y.size) a0) a1
def gd (a0:List aD)(a1:Int):Prop:=(bM maxLen (fun y:aD=>y.size<=maxLen) a0)/\0<=a1/\a1<=1048576
def R:=RR (p2 gd) (u2 md)
def an {a0 a1}(h:gd a0 a1):R ((a0.map cG),a1)=some (md a0 a1):=aP (a:=(a0,a1)) h
def aU:=CN [pL 9,pI] oI RT.dec R
def bA (a0)(a1)(hg:gd a0 a1):∃n,start (iter step n) (a0.map cG) a1=ret (md a0 a1):=by
 obtain ⟨hs,g0,g1⟩:=hg
 unfold start md
 simp only [List.length_map]
 refine jC (pt:=fun left i=>Pt.p0 (a0.map cG) left (i:Int)) (f:=fun y:aD=>y.size) hs.1 (fun J i h left p0 p1=>?_) (fun J left=>?_) g0 g1
 ·simp only [step,MM,List.length_map,aK h,aI,bh,cz,pQ h]
  rw [lO p0 p1 (hs.get h),aH h hs.1]
  by_cases hc:left - ((a0[i].size:Nat):Int)<0
  ·rw [decide_eq_true hc,if_pos (by omega)];rfl
  ·rw [decide_eq_false hc,if_neg (by omega)];rfl
 ·simp only [step,List.length_map,dR,bu]
def af:cD 9 aU:=L2 28 pid bY bX live step start mix aE bA .nil Tryz.func9
end Z10
namespace Z11
def F (x0:aY)(x1:Int):aJ:=(cond (decide ((i64.wrap (x1 - (x0.bw.size:Int)))<0)) (ret ((-1):Int)) (call (Z10.R (x0.bK,(i64.wrap (x1 - (x0.bw.size:Int))))) fun v1=>(cond (decide (v1<0)) (ret ((-1):Int)) (ret (v1:Int)))))
def md (a0:ah)(a1:Int):Int:=iE (ah.size a0) a1
def gd (a0:ah)(a1:Int):Prop:=(ah.Sm maxLen a0)/\0<=a1/\a1<=1048576
def R:=RR (p2 gd) (u2 md)
def an {a0 a1}(h:gd a0 a1):R ((ah.r a0),a1)=some (md a0 a1):=aP (a:=(a0,a1)) h
def aU:=CN [.agg Aw,pI] oI RT.dec R
def bA (a0)(a1)(hg:gd a0 a1):F (ah.r a0) a1=ret (md a0 a1):=by
 obtain ⟨hs,g0,g1⟩:=hg
 unfold md
 show (bif (decide ((i64.wrap (a1 - (a0.bw.size:Int)))<0)) then ret ((-1):Int) else (call (Z10.R ((a0.bK.map cG),(i64.wrap (a1 - (a0.bw.size:Int))))) fun v1=>(cond (decide (v1<0)) (ret ((-1):Int)) (ret (v1:Int)))))=_
 rw [lO (left:=a1) (s:=a0.bw.size) (by omega) (by omega) hs.1]
 by_cases c0:a1 - ((a0.bw.size:Nat):Int)<0
 ·rw [decide_eq_true c0,bh];rw [show iE (ah.size a0) a1=-1 from cO (by unfold ah.size;omega)];try rfl
 rw [decide_eq_false c0,bu]
 rw [call_eq (Z10.an (a1:=(a1 - ((a0.bw.size:Nat):Int))) ⟨hs.2,by omega,by omega⟩)]
 unfold Z10.md
 by_cases c1:(a1 - ((a0.bw.size:Nat):Int))<((dJ (fun y:aD=>y.size) a0.bK:Nat):Int)
 ·rw [cO c1];rw [show iE (ah.size a0) a1=-1 from cO (by unfold ah.size;omega)];try rfl
 rw [dm c1,dc (by omega),bu]
 rw [show iE (ah.size a0) a1=a1 - ((a0.bw.size:Nat):Int) - ((dJ (fun y:aD=>y.size) a0.bK:Nat):Int) from by rw [dm (by unfold ah.size;omega)];unfold ah.size;omega]
def af:cD 180 aU:=W2 19 F mix aE bA (.cons Z10.af .nil) Tryz.func180
end Z11
namespace Z12
inductive Pt where
 | p0 (a:aB) (b c:Int)
def pid:Pt->Nat
 | .p0 ..=>5
def bY:Pt->List V
 | .p0 a b c=>[.sl none 235 a,.int .i64 b,.int .i64 c]
def bX:Pt->List aV
 | .p0 a b c=>[]
def step (J:Pt->aJ):Pt->aJ
 | .p0 a b c=>(cond (decide (c<(a.length:Int))) (m2 c (a.length:Int) (call (Z11.R ((aY.at a (toNat c)),b)) fun v1=>(cond (decide (v1<0)) (ret ((-1):Int)) (J (.p0 a v1 (i64.wrap (c+1))))))) (ret (b:Int)))
def start (J:Pt->aJ)(x0:aB)(x1:Int):aJ:=(cond (decide ((i64.wrap (x1 - (x0.length:Int)))<0)) (ret ((-1):Int)) (J (.p0 x0 (i64.wrap (x1 - (x0.length:Int))) 0)))
def live:Nat->Live:=fun i=>match i with | 5=>[(0,none),(1,none),(5,none)] | _=>[]
def md (a0:List ah)(a1:Int):Int:=iE (dJ (fun y:ah=>ah.size y) a0) a1
def gd (a0:List ah)(a1:Int):Prop:=(bM maxLen (fun y:ah=>ah.Sm maxLen y) a0)/\0<=a1/\a1<=1048576
def R:=RR (p2 gd) (u2 md)
def an {a0 a1}(h:gd a0 a1):R ((a0.map ah.row),a1)=some (md a0 a1):=aP (a:=(a0,a1)) h
def aU:=CN [pL 235,pI] oI RT.dec R
def bA (a0)(a1)(hg:gd a0 a1):∃n,start (iter step n) (a0.map ah.row) a1=ret (md a0 a1):=by
 obtain ⟨hs,g0,g1⟩:=hg
 unfold start md
 simp only [List.length_map]
 refine jC (pt:=fun left i=>Pt.p0 (a0.map ah.row) left (i:Int)) (f:=fun y:ah=>ah.size y) hs.1 (fun J i h left p0 p1=>?_) (fun J left=>?_) g0 g1
 ·simp only [step,MM,List.length_map,aK h,aI,bh,cz,ah.dV h]
  rw [call_eq (Z11.an ⟨hs.get h,p0,p1⟩),aH h hs.1]
  unfold Z11.md
  by_cases hc:left<((ah.size (a0[i]):Nat):Int)
  ·rw [cO hc,if_pos hc];rfl
  ·rw [dm hc,if_neg hc,dc (by omega)];rfl
 ·simp only [step,List.length_map,dR,bu]
def af:cD 144 aU:=L2 27 pid bY bX live step start mix aE bA (.cons Z11.af .nil) Tryz.func144
end Z12
namespace Z13
def F (x0:dN)(x1:Int):aJ:=(call (Z5.R (x0.aT,x1)) fun v1=>(cond (decide (v1<0)) (ret ((-1):Int)) (call (Z12.R (x0.bN,v1)) fun v2=>(cond (decide (v2<0)) (ret ((-1):Int)) (ret (v2:Int))))))
def md (a0:aM)(a1:Int):Int:=iE (aM.size a0) a1
def gd (a0:aM)(a1:Int):Prop:=(aM.Sm maxLen a0)/\0<=a1/\a1<=1048576
def R:=RR (p2 gd) (u2 md)
def an {a0 a1}(h:gd a0 a1):R ((aM.r a0),a1)=some (md a0 a1):=aP (a:=(a0,a1)) h
def aU:=CN [.agg Av,pI] oI RT.dec R
def bA (a0)(a1)(hg:gd a0 a1):F (aM.r a0) a1=ret (md a0 a1):=by
 obtain ⟨hs,g0,g1⟩:=hg
 unfold md
 show (call (Z5.R ((a0.aT.map aa.row),a1)) fun v1=>(bif (decide (v1<0)) then ret ((-1):Int) else (call (Z12.R ((a0.bN.map ah.row),v1)) fun v2=>(cond (decide (v2<0)) (ret ((-1):Int)) (ret (v2:Int))))))=_
 rw [call_eq (Z5.an (a1:=a1) ⟨hs.1,by omega,by omega⟩)]
 unfold Z5.md
 by_cases c0:a1<((dJ (fun y:aa=>aa.size y) a0.aT:Nat):Int)
 ·rw [cO c0];rw [show iE (aM.size a0) a1=-1 from cO (by unfold aM.size;omega)];try rfl
 rw [dm c0,dc (by omega),bu]
 rw [call_eq (Z12.an (a1:=(a1 - ((dJ (fun y:aa=>aa.size y) a0.aT:Nat):Int))) ⟨hs.2,by omega,by omega⟩)]
 unfold Z12.md
 by_cases c1:(a1 - ((dJ (fun y:aa=>aa.size y) a0.aT:Nat):Int))<((dJ (fun y:ah=>ah.size y) a0.bN:Nat):Int)
 ·rw [cO c1];rw [show iE (aM.size a0) a1=-1 from cO (by unfold aM.size;omega)];try rfl
 rw [dm c1,dc (by omega),bu]
 rw [show iE (aM.size a0) a1=a1 - ((dJ (fun y:aa=>aa.size y) a0.aT:Nat):Int) - ((dJ (fun y:ah=>ah.size y) a0.bN:Nat):Int) from by rw [dm (by unfold aM.size;omega)];unfold aM.size;omega]
def af:cD 114 aU:=W2 18 F mix aE bA (.cons Z5.af (.cons Z12.af .nil)) Tryz.func114
end Z13
namespace Z14
inductive Pt where
 | p0 (a:aB) (b c:Int)
def pid:Pt->Nat
 | .p0 ..=>5
def bY:Pt->List V
 | .p0 a b c=>[.sl none 183 a,.int .i64 b,.int .i64 c]
def bX:Pt->List aV
 | .p0 a b c=>[]
def step (J:Pt->aJ):Pt->aJ
 | .p0 a b c=>(cond (decide (c<(a.length:Int))) (m2 c (a.length:Int) (call (Z13.R ((dN.at a (toNat c)),b)) fun v1=>(cond (decide (v1<0)) (ret ((-1):Int)) (J (.p0 a v1 (i64.wrap (c+1))))))) (ret (b:Int)))
def start (J:Pt->aJ)(x0:aB)(x1:Int):aJ:=(cond (decide ((i64.wrap (x1 - (x0.length:Int)))<0)) (ret ((-1):Int)) (J (.p0 x0 (i64.wrap (x1 - (x0.length:Int))) 0)))
def live:Nat->Live:=fun i=>match i with | 5=>[(0,none),(1,none),(5,none)] | _=>[]
def md (a0:List aM)(a1:Int):Int:=iE (dJ (fun y:aM=>aM.size y) a0) a1
def gd (a0:List aM)(a1:Int):Prop:=(bM maxLen (fun y:aM=>aM.Sm maxLen y) a0)/\0<=a1/\a1<=1048576
def R:=RR (p2 gd) (u2 md)
def an {a0 a1}(h:gd a0 a1):R ((a0.map aM.row),a1)=some (md a0 a1):=aP (a:=(a0,a1)) h
def aU:=CN [pL 183,pI] oI RT.dec R
def bA (a0)(a1)(hg:gd a0 a1):∃n,start (iter step n) (a0.map aM.row) a1=ret (md a0 a1):=by
 obtain ⟨hs,g0,g1⟩:=hg
 unfold start md
 simp only [List.length_map]
 refine jC (pt:=fun left i=>Pt.p0 (a0.map aM.row) left (i:Int)) (f:=fun y:aM=>aM.size y) hs.1 (fun J i h left p0 p1=>?_) (fun J left=>?_) g0 g1
 ·simp only [step,MM,List.length_map,aK h,aI,bh,cz,aM.dV h]
  rw [call_eq (Z13.an ⟨hs.get h,p0,p1⟩),aH h hs.1]
  unfold Z13.md
  by_cases hc:left<((aM.size (a0[i]):Nat):Int)
  ·rw [cO hc,if_pos hc];rfl
  ·rw [dm hc,if_neg hc,dc (by omega)];rfl
 ·simp only [step,List.length_map,dR,bu]
def af:cD 83 aU:=L2 27 pid bY bX live step start mix aE bA (.cons Z13.af .nil) Tryz.func83
end Z14
namespace Z15
def F (x0:cM)(x1:Int):aJ:=(call (Z14.R (x0.bI,x1)) fun v1=>(cond (decide (v1<0)) (ret ((-1):Int)) (ret (v1:Int))))
def md (a0:au)(a1:Int):Int:=iE (au.size a0) a1
def gd (a0:au)(a1:Int):Prop:=(au.Sm maxLen a0)/\0<=a1/\a1<=1048576
def R:=RR (p2 gd) (u2 md)
def an {a0 a1}(h:gd a0 a1):R ((au.r a0),a1)=some (md a0 a1):=aP (a:=(a0,a1)) h
def aU:=CN [.agg BG,pI] oI RT.dec R
def bA (a0)(a1)(hg:gd a0 a1):F (au.r a0) a1=ret (md a0 a1):=by
 obtain ⟨hs,g0,g1⟩:=hg
 unfold md
 show (call (Z14.R ((a0.bI.map aM.row),a1)) fun v1=>(cond (decide (v1<0)) (ret ((-1):Int)) (ret (v1:Int))))=_
 rw [call_eq (Z14.an (a1:=a1) ⟨hs,by omega,by omega⟩)]
 unfold Z14.md
 by_cases c0:a1<((dJ (fun y:aM=>aM.size y) a0.bI:Nat):Int)
 ·rw [cO c0];rw [show iE (au.size a0) a1=-1 from cO (by unfold au.size;omega)];try rfl
 rw [dm c0,dc (by omega),bu]
 rw [show iE (au.size a0) a1=a1 - ((dJ (fun y:aM=>aM.size y) a0.bI:Nat):Int) from by rw [dm (by unfold au.size;omega)];unfold au.size;omega]
def af:cD 41 aU:=W2 12 F mix aE bA (.cons Z14.af .nil) Tryz.func41
end Z15
namespace Z16
inductive Pt where
 | p0 (a:aB) (b c:Int)
def pid:Pt->Nat
 | .p0 ..=>5
def bY:Pt->List V
 | .p0 a b c=>[.sl none 78 a,.int .i64 b,.int .i64 c]
def bX:Pt->List aV
 | .p0 a b c=>[]
def step (J:Pt->aJ):Pt->aJ
 | .p0 a b c=>(cond (decide (c<(a.length:Int))) (m2 c (a.length:Int) (call (Z15.R ((cM.at a (toNat c)),b)) fun v1=>(cond (decide (v1<0)) (ret ((-1):Int)) (J (.p0 a v1 (i64.wrap (c+1))))))) (ret (b:Int)))
def start (J:Pt->aJ)(x0:aB)(x1:Int):aJ:=(cond (decide ((i64.wrap (x1 - (x0.length:Int)))<0)) (ret ((-1):Int)) (J (.p0 x0 (i64.wrap (x1 - (x0.length:Int))) 0)))
def live:Nat->Live:=fun i=>match i with | 5=>[(0,none),(1,none),(5,none)] | _=>[]
def md (a0:List au)(a1:Int):Int:=iE (dJ (fun y:au=>au.size y) a0) a1
def gd (a0:List au)(a1:Int):Prop:=(bM maxLen (fun y:au=>au.Sm maxLen y) a0)/\0<=a1/\a1<=1048576
def R:=RR (p2 gd) (u2 md)
def an {a0 a1}(h:gd a0 a1):R ((a0.map au.row),a1)=some (md a0 a1):=aP (a:=(a0,a1)) h
def aU:=CN [pL 78,pI] oI RT.dec R
def bA (a0)(a1)(hg:gd a0 a1):∃n,start (iter step n) (a0.map au.row) a1=ret (md a0 a1):=by
 obtain ⟨hs,g0,g1⟩:=hg
 unfold start md
 simp only [List.length_map]
 refine jC (pt:=fun left i=>Pt.p0 (a0.map au.row) left (i:Int)) (f:=fun y:au=>au.size y) hs.1 (fun J i h left p0 p1=>?_) (fun J left=>?_) g0 g1
 ·simp only [step,MM,List.length_map,aK h,aI,bh,cz,au.dV h]
  rw [call_eq (Z15.an ⟨hs.get h,p0,p1⟩),aH h hs.1]
  unfold Z15.md
  by_cases hc:left<((au.size (a0[i]):Nat):Int)
  ·rw [cO hc,if_pos hc];rfl
  ·rw [dm hc,if_neg hc,dc (by omega)];rfl
 ·simp only [step,List.length_map,dR,bu]
def af:cD 7 aU:=L2 27 pid bY bX live step start mix aE bA (.cons Z15.af .nil) Tryz.func7
end Z16
namespace Z17
def F (x0:bg)(x1:Int):aJ:=(cond (decide ((i64.wrap (x1 - (x0.fName.size:Int)))<0)) (ret ((-1):Int)) (ret ((i64.wrap (x1 - (x0.fName.size:Int))):Int)))
def md (a0:bg)(a1:Int):Int:=iE (bg.size a0) a1
def gd (a0:bg)(a1:Int):Prop:=(bg.Sm maxLen a0)/\0<=a1/\a1<=1048576
def R:=RR (p2 gd) (u2 md)
def an {a0 a1}(h:gd a0 a1):R (a0,a1)=some (md a0 a1):=aP (a:=(a0,a1)) h
def aU:=CN [.agg BS,pI] oI RT.dec R
def bA (a0)(a1)(hg:gd a0 a1):F a0 a1=ret (md a0 a1):=by
 obtain ⟨hs,g0,g1⟩:=hg
 unfold md
 show (cond (decide ((i64.wrap (a1 - (a0.fName.size:Int)))<0)) (ret ((-1):Int)) (ret ((i64.wrap (a1 - (a0.fName.size:Int))):Int)))=_
 rw [lO (left:=a1) (s:=a0.fName.size) (by omega) (by omega) hs]
 by_cases c0:a1 - ((a0.fName.size:Nat):Int)<0
 ·rw [decide_eq_true c0,bh];rw [show iE (bg.size a0) a1=-1 from cO (by unfold bg.size;omega)];try rfl
 rw [decide_eq_false c0,bu]
 rw [show iE (bg.size a0) a1=a1 - ((a0.fName.size:Nat):Int) from by rw [dm (by unfold bg.size;omega)];unfold bg.size;omega]
def af:cD 42 aU:=W2 13 F mix aE bA .nil Tryz.func42
end Z17
namespace Z18
inductive Pt where
 | p0 (a:aB) (b c:Int)
def pid:Pt->Nat
 | .p0 ..=>5
def bY:Pt->List V
 | .p0 a b c=>[.sl none 81 a,.int .i64 b,.int .i64 c]
def bX:Pt->List aV
 | .p0 a b c=>[]
def step (J:Pt->aJ):Pt->aJ
 | .p0 a b c=>(cond (decide (c<(a.length:Int))) (m2 c (a.length:Int) (call (Z17.R ((bg.at a (toNat c)),b)) fun v1=>(cond (decide (v1<0)) (ret ((-1):Int)) (J (.p0 a v1 (i64.wrap (c+1))))))) (ret (b:Int)))
def start (J:Pt->aJ)(x0:aB)(x1:Int):aJ:=(cond (decide ((i64.wrap (x1 - (x0.length:Int)))<0)) (ret ((-1):Int)) (J (.p0 x0 (i64.wrap (x1 - (x0.length:Int))) 0)))
def live:Nat->Live:=fun i=>match i with | 5=>[(0,none),(1,none),(5,none)] | _=>[]
def md (a0:List bg)(a1:Int):Int:=iE (dJ (fun y:bg=>bg.size y) a0) a1
def gd (a0:List bg)(a1:Int):Prop:=(bM maxLen (fun y:bg=>bg.Sm maxLen y) a0)/\0<=a1/\a1<=1048576
def R:=RR (p2 gd) (u2 md)
def an {a0 a1}(h:gd a0 a1):R ((a0.map bg.row),a1)=some (md a0 a1):=aP (a:=(a0,a1)) h
def aU:=CN [pL 81,pI] oI RT.dec R
def bA (a0)(a1)(hg:gd a0 a1):∃n,start (iter step n) (a0.map bg.row) a1=ret (md a0 a1):=by
 obtain ⟨hs,g0,g1⟩:=hg
 unfold start md
 simp only [List.length_map]
 refine jC (pt:=fun left i=>Pt.p0 (a0.map bg.row) left (i:Int)) (f:=fun y:bg=>bg.size y) hs.1 (fun J i h left p0 p1=>?_) (fun J left=>?_) g0 g1
 ·simp only [step,MM,List.length_map,aK h,aI,bh,cz,bg.dV h]
  rw [call_eq (Z17.an ⟨hs.get h,p0,p1⟩),aH h hs.1]
  unfold Z17.md
  by_cases hc:left<((bg.size (a0[i]):Nat):Int)
  ·rw [cO hc,if_pos hc];rfl
  ·rw [dm hc,if_neg hc,dc (by omega)];rfl
 ·simp only [step,List.length_map,dR,bu]
def af:cD 8 aU:=L2 27 pid bY bX live step start mix aE bA (.cons Z17.af .nil) Tryz.func8
end Z18
namespace Z19
inductive Pt where
 | p0 (a:aB) (b:Int) (c:aB)
def pid:Pt->Nat
 | .p0 ..=>3
def bY:Pt->List V
 | .p0 a b c=>[.sl none 3 a,.own 0,.int .i64 b]
def bX:Pt->List aV
 | .p0 a b c=>[.row 3 c]
def step (J:Pt->aJ):Pt->aJ
 | .p0 a b c=>(cond (decide (b<(a.length:Int))) (m2 b (a.length:Int) (m2 b (c.length:Int) (J (.p0 a (i64.wrap (b+1)) (List.set c (toNat b) [L.int (jt a (toNat b))]))))) (ret (c:aB)))
def start (J:Pt->aJ)(x0:aB):aJ:=(cj (decide ((0:Int)<=(x0.length:Int))) (cj (decide ((x0.length:Int)<=(x0.length:Int))) (cj (decide ((x0.length:Int)*8<=140737488355328)) (J (.p0 x0 0 (List.replicate (toNat (x0.length:Int)) [L.int 0]))))))
def live:Nat->Live:=fun i=>match i with | 3=>[(0,none),(3,none),(4,none)] | _=>[]
def md (a0:List Int):List Int:=a0
def gd (a0:List Int):Prop:=bM (2^36) (fun y:Int=>True) a0
def R:=RR gd md
def an {a0}(h:gd a0):R (a0.map bq)=some (a0.map bq):=aP (a:=a0) h
def aU:=CN [pL 3] (oL 3) RT.dec R
def bA (a0)(hg:gd a0):∃n,start (iter step n) (a0.map bq)=ret ((md a0).map bq):=by
 unfold start md
 simp only [List.length_map]
 refine iy (b:=8) (pt:=fun i c=>Pt.p0 (a0.map bq) (i:Int) c) (by have:=hg.1;simp at this;omega) (fun J i h c hc=>?_) (fun J c=>?_)
 ·simp only [step,MM,List.length_map,aK h,aI,bh,cz,sV h,hc]
  rw [aH (n:=a0.length) h (by have:=hg.1;simp only [maxLen];simp at this;omega)]
  rfl
 ·simp only [step,List.length_map,dR,bu]
def af:cD 224 aU:=L1 22 pid bY bX live step start mix aE bA .nil Tryz.func224
end Z19
namespace Z20
def F (x0:bE):aJ:=(call (Z19.R x0.aX) fun v1=>ret ((⟨v1,x0.cE⟩:bE):bE))
def md (a0:aO):aO:=a0
def gd (a0:aO):Prop:=aO.Sm (2^36) a0
def R:=RR gd md
def an {a0}(h:gd a0):R (aO.r a0)=some (aO.r a0):=aP (a:=a0) h
def aU:=CN [.agg AI] (.agg f136) RT.dec R
def bA (a0)(hg:gd a0):F (aO.r a0)=ret (aO.r (md a0)):=by
 unfold md
 show (call (Z19.R (a0.aX.map bq)) fun v1=>ret ((⟨v1,a0.cE⟩:bE):bE))=_
 rw [call_eq (Z19.an hg)]
 rfl
def af:cD 181 aU:=W1 12 F mix aE bA (.cons Z19.af .nil) Tryz.func181
end Z20
namespace Z21
def F (x0:cg):aJ:=(call (Z20.R x0.bR) fun v1=>(call (Z20.R x0.bD) fun v2=>(call (Z20.R x0.bB) fun v3=>ret ((⟨x0.bz,x0.cI,x0.bQ,x0.cF,x0.cC,x0.cu,x0.cW,x0.dy,v1,v2,x0.cY,v3,x0.bF⟩:cg):cg))))
def md (a0:aF):aF:=a0
def gd (a0:aF):Prop:=aF.Sm (2^36) a0
def R:=RR gd md
def an {a0}(h:gd a0):R (aF.r a0)=some (aF.r a0):=aP (a:=a0) h
def aU:=CN [.agg Ai] (.agg f138) RT.dec R
def bA (a0)(hg:gd a0):F (aF.r a0)=ret (aF.r (md a0)):=by
 unfold md
 show (call (Z20.R (aO.r a0.bR)) fun v1=>(call (Z20.R (aO.r a0.bD)) fun v2=>(call (Z20.R (aO.r a0.bB)) fun v3=>ret ((⟨a0.bz,a0.cI,a0.bQ,a0.cF,a0.cC,a0.cu,a0.cW,a0.dy,v1,v2,a0.cY,v3,a0.bF⟩:cg):cg))))=_
 rw [call_eq (Z20.an hg.1)]
 rw [call_eq (Z20.an hg.2.1)]
 rw [call_eq (Z20.an hg.2.2)]
 rfl
def af:cD 145 aU:=W1 47 F mix aE bA (.cons Z20.af .nil) Tryz.func145
end Z21
namespace Z22
def F (x0:bt):aJ:=ret (x0:bt)
def md (a0:bt):bt:=a0
def gd (a0:bt):Prop:=bt.Sm (2^36) a0
def R:=RR gd md
def an {a0}(h:gd a0):R a0=some a0:=aP (a:=a0) h
def aU:=CN [.agg Bl] (.agg f190) RT.dec R
def bA (a0)(hg:gd a0):F a0=ret (md a0):=by
 rfl
def af:cD 182 aU:=W1 11 F mix aE bA .nil Tryz.func182
end Z22
namespace Z23
inductive Pt where
 | p0 (a:aB) (b:Int) (c:aB)
def pid:Pt->Nat
 | .p0 ..=>3
def bY:Pt->List V
 | .p0 a b c=>[.sl none 238 a,.own 0,.int .i64 b]
def bX:Pt->List aV
 | .p0 a b c=>[.row 190 c]
def step (J:Pt->aJ):Pt->aJ
 | .p0 a b c=>(cond (decide (b<(a.length:Int))) (m2 b (a.length:Int) (call (Z22.R (bt.at a (toNat b))) fun v1=>(m2 b (c.length:Int) (J (.p0 a (i64.wrap (b+1)) (List.set c (toNat b) (bt.enc v1))))))) (ret (c:aB)))
def start (J:Pt->aJ)(x0:aB):aJ:=(cj (decide ((0:Int)<=(x0.length:Int))) (cj (decide ((x0.length:Int)<=(x0.length:Int))) (cj (decide ((x0.length:Int)*16<=140737488355328)) (J (.p0 x0 0 (List.replicate (toNat (x0.length:Int)) [L.int 0,L.int 0]))))))
def live:Nat->Live:=fun i=>match i with | 3=>[(0,none),(3,none),(4,none)] | _=>[]
def md (a0:List bt):List bt:=a0
def gd (a0:List bt):Prop:=bM (2^36) (fun y:bt=>bt.Sm (2^36) y) a0
def R:=RR gd md
def an {a0}(h:gd a0):R (a0.map bt.row)=some (a0.map bt.row):=aP (a:=a0) h
def aU:=CN [pL 238] (oL 190) RT.dec R
def bA (a0)(hg:gd a0):∃n,start (iter step n) (a0.map bt.row)=ret ((md a0).map bt.row):=by
 unfold start md
 simp only [List.length_map]
 refine iy (b:=16) (pt:=fun i c=>Pt.p0 (a0.map bt.row) (i:Int) c) (by have:=hg.1;simp at this;omega) (fun J i h c hc=>?_) (fun J c=>?_)
 ·simp only [step,MM,List.length_map,aK h,aI,bh,cz,bt.dV h,hc]
  rw [call_eq (Z22.an (hg.get h))]
  try simp only [hc,aK h,bh]
  rw [aH (n:=a0.length) h (by have:=hg.1;simp only [maxLen];simp at this;omega)]
  rfl
 ·simp only [step,List.length_map,dR,bu]
def af:cD 146 aU:=L1 23 pid bY bX live step start mix aE bA (.cons Z22.af .nil) Tryz.func146
end Z23
namespace Z24
def F (x0:aR):aJ:=(call (Z21.R x0.aq) fun v1=>(call (Z23.R x0.cm) fun v2=>ret ((⟨v1,v2⟩:aR):aR)))
def md (a0:aa):aa:=a0
def gd (a0:aa):Prop:=aa.Sm (2^36) a0
def R:=RR gd md
def an {a0}(h:gd a0):R (aa.r a0)=some (aa.r a0):=aP (a:=a0) h
def aU:=CN [.agg Au] (.agg f141) RT.dec R
def bA (a0)(hg:gd a0):F (aa.r a0)=ret (aa.r (md a0)):=by
 unfold md
 show (call (Z21.R (aF.r a0.aq)) fun v1=>(call (Z23.R (a0.cm.map bt.row)) fun v2=>ret ((⟨v1,v2⟩:aR):aR)))=_
 rw [call_eq (Z21.an hg.1)]
 rw [call_eq (Z23.an hg.2)]
 rfl
def af:cD 116 aU:=W1 13 F mix aE bA (.cons Z21.af (.cons Z23.af .nil)) Tryz.func116
end Z24
namespace Z25
inductive Pt where
 | p0 (a:aB) (b:Int) (c:aB)
def pid:Pt->Nat
 | .p0 ..=>3
def bY:Pt->List V
 | .p0 a b c=>[.sl none 130 a,.own 0,.int .i64 b]
def bX:Pt->List aV
 | .p0 a b c=>[.row 141 c]
def step (J:Pt->aJ):Pt->aJ
 | .p0 a b c=>(cond (decide (b<(a.length:Int))) (m2 b (a.length:Int) (call (Z24.R (aR.at a (toNat b))) fun v1=>(m2 b (c.length:Int) (J (.p0 a (i64.wrap (b+1)) (List.set c (toNat b) (aR.enc v1))))))) (ret (c:aB)))
def start (J:Pt->aJ)(x0:aB):aJ:=(cj (decide ((0:Int)<=(x0.length:Int))) (cj (decide ((x0.length:Int)<=(x0.length:Int))) (cj (decide ((x0.length:Int)*200<=140737488355328)) (J (.p0 x0 0 (List.replicate (toNat (x0.length:Int)) [L.int 0,L.int 0,L.int 0,L.int 0,L.int 0,L.int 0,L.int 0,L.int 0,L.sl [],L.int 0,L.sl [],L.int 0,L.int 0,L.sl [],L.int 0,L.bool false,L.sl []]))))))
def live:Nat->Live:=fun i=>match i with | 3=>[(0,none),(3,none),(4,none)] | _=>[]
def md (a0:List aa):List aa:=a0
def gd (a0:List aa):Prop:=bM (2^36) (fun y:aa=>aa.Sm (2^36) y) a0
def R:=RR gd md
def an {a0}(h:gd a0):R (a0.map aa.row)=some (a0.map aa.row):=aP (a:=a0) h
def aU:=CN [pL 130] (oL 141) RT.dec R
def bA (a0)(hg:gd a0):∃n,start (iter step n) (a0.map aa.row)=ret ((md a0).map aa.row):=by
 unfold start md
 simp only [List.length_map]
 refine iy (b:=200) (pt:=fun i c=>Pt.p0 (a0.map aa.row) (i:Int) c) (by have:=hg.1;simp at this;omega) (fun J i h c hc=>?_) (fun J c=>?_)
 ·simp only [step,MM,List.length_map,aK h,aI,bh,cz,aa.dV h,hc]
  rw [call_eq (Z24.an (hg.get h))]
  try simp only [hc,aK h,bh]
  rw [aH (n:=a0.length) h (by have:=hg.1;simp only [maxLen];simp at this;omega)]
  rfl
 ·simp only [step,List.length_map,dR,bu]
def af:cD 86 aU:=L1 23 pid bY bX live step start mix aE bA (.cons Z24.af .nil) Tryz.func86
end Z25
namespace Z26
inductive Pt where
 | p0 (a:aB) (b:Int) (c:aB)
def pid:Pt->Nat
 | .p0 ..=>3
def bY:Pt->List V
 | .p0 a b c=>[.sl none 122 a,.own 0,.int .i64 b]
def bX:Pt->List aV
 | .p0 a b c=>[.row 134 c]
def step (J:Pt->aJ):Pt->aJ
 | .p0 a b c=>(cond (decide (b<(a.length:Int))) (m2 b (a.length:Int) (call (Z25.R (oq a (toNat b))) fun v1=>(m2 b (c.length:Int) (J (.p0 a (i64.wrap (b+1)) (List.set c (toNat b) [L.sl v1])))))) (ret (c:aB)))
def start (J:Pt->aJ)(x0:aB):aJ:=(cj (decide ((0:Int)<=(x0.length:Int))) (cj (decide ((x0.length:Int)<=(x0.length:Int))) (cj (decide ((x0.length:Int)*24<=140737488355328)) (J (.p0 x0 0 (List.replicate (toNat (x0.length:Int)) [L.sl []]))))))
def live:Nat->Live:=fun i=>match i with | 3=>[(0,none),(3,none),(4,none)] | _=>[]
def md (a0:List (List aa)):List (List aa):=a0
def gd (a0:List (List aa)):Prop:=bM (2^36) (fun y:List aa=>bM (2^36) (fun y:aa=>aa.Sm (2^36) y) y) a0
def R:=RR gd md
def an {a0}(h:gd a0):R (a0.map (dI aa.row))=some (a0.map (dI aa.row)):=aP (a:=a0) h
def aU:=CN [pL 122] (oL 134) RT.dec R
def bA (a0)(hg:gd a0):∃n,start (iter step n) (a0.map (dI aa.row))=ret ((md a0).map (dI aa.row)):=by
 unfold start md
 simp only [List.length_map]
 refine iy (b:=24) (pt:=fun i c=>Pt.p0 (a0.map (dI aa.row)) (i:Int) c) (by have:=hg.1;simp at this;omega) (fun J i h c hc=>?_) (fun J c=>?_)
 ·simp only [step,MM,List.length_map,aK h,aI,bh,cz,pT h,hc]
  rw [call_eq (Z25.an (hg.get h))]
  try simp only [hc,aK h,bh]
  rw [aH (n:=a0.length) h (by have:=hg.1;simp only [maxLen];simp at this;omega)]
  rfl
 ·simp only [step,List.length_map,dR,bu]
def af:cD 44 aU:=L1 23 pid bY bX live step start mix aE bA (.cons Z25.af .nil) Tryz.func44
end Z26
namespace Z27
def F (x0:bJ):aJ:=(call (Z24.R x0.aS) fun v1=>(call (Z24.R x0.fA) fun v2=>(call (Z24.R x0.fB) fun v3=>ret ((⟨v1,v2,v3⟩:bJ):bJ))))
def md (a0:az):az:=a0
def gd (a0:az):Prop:=az.Sm (2^36) a0
def R:=RR gd md
def an {a0}(h:gd a0):R (az.r a0)=some (az.r a0):=aP (a:=a0) h
def aU:=CN [.agg AE] (.agg f143) RT.dec R
def bA (a0)(hg:gd a0):F (az.r a0)=ret (az.r (md a0)):=by
 unfold md
 show (call (Z24.R (aa.r a0.aS)) fun v1=>(call (Z24.R (aa.r a0.fA)) fun v2=>(call (Z24.R (aa.r a0.fB)) fun v3=>ret ((⟨v1,v2,v3⟩:bJ):bJ))))=_
 rw [call_eq (Z24.an hg.1)]
 rw [call_eq (Z24.an hg.2.1)]
 rw [call_eq (Z24.an hg.2.2)]
 rfl
def af:cD 87 aU:=W1 17 F mix aE bA (.cons Z24.af .nil) Tryz.func87
end Z27
namespace Z28
inductive Pt where
 | p0 (a:aB) (b:Int) (c:aB)
def pid:Pt->Nat
 | .p0 ..=>3
def bY:Pt->List V
 | .p0 a b c=>[.sl none 132 a,.own 0,.int .i64 b]
def bX:Pt->List aV
 | .p0 a b c=>[.row 143 c]
def step (J:Pt->aJ):Pt->aJ
 | .p0 a b c=>(cond (decide (b<(a.length:Int))) (m2 b (a.length:Int) (call (Z27.R (bJ.at a (toNat b))) fun v1=>(m2 b (c.length:Int) (J (.p0 a (i64.wrap (b+1)) (List.set c (toNat b) (bJ.enc v1))))))) (ret (c:aB)))
def start (J:Pt->aJ)(x0:aB):aJ:=(cj (decide ((0:Int)<=(x0.length:Int))) (cj (decide ((x0.length:Int)<=(x0.length:Int))) (cj (decide ((x0.length:Int)*600<=140737488355328)) (J (.p0 x0 0 (List.replicate (toNat (x0.length:Int)) [L.int 0,L.int 0,L.int 0,L.int 0,L.int 0,L.int 0,L.int 0,L.int 0,L.sl [],L.int 0,L.sl [],L.int 0,L.int 0,L.sl [],L.int 0,L.bool false,L.sl [],L.int 0,L.int 0,L.int 0,L.int 0,L.int 0,L.int 0,L.int 0,L.int 0,L.sl [],L.int 0,L.sl [],L.int 0,L.int 0,L.sl [],L.int 0,L.bool false,L.sl [],L.int 0,L.int 0,L.int 0,L.int 0,L.int 0,L.int 0,L.int 0,L.int 0,L.sl [],L.int 0,L.sl [],L.int 0,L.int 0,L.sl [],L.int 0,L.bool false,L.sl []]))))))
def live:Nat->Live:=fun i=>match i with | 3=>[(0,none),(3,none),(4,none)] | _=>[]
def md (a0:List az):List az:=a0
def gd (a0:List az):Prop:=bM (2^36) (fun y:az=>az.Sm (2^36) y) a0
def R:=RR gd md
def an {a0}(h:gd a0):R (a0.map az.row)=some (a0.map az.row):=aP (a:=a0) h
def aU:=CN [pL 132] (oL 143) RT.dec R
def bA (a0)(hg:gd a0):∃n,start (iter step n) (a0.map az.row)=ret ((md a0).map az.row):=by
 unfold start md
 simp only [List.length_map]
 refine iy (b:=600) (pt:=fun i c=>Pt.p0 (a0.map az.row) (i:Int) c) (by have:=hg.1;simp at this;omega) (fun J i h c hc=>?_) (fun J c=>?_)
 ·simp only [step,MM,List.length_map,aK h,aI,bh,cz,az.dV h,hc]
  rw [call_eq (Z27.an (hg.get h))]
  try simp only [hc,aK h,bh]
  rw [aH (n:=a0.length) h (by have:=hg.1;simp only [maxLen];simp at this;omega)]
  rfl
 ·simp only [step,List.length_map,dR,bu]
def af:cD 45 aU:=L1 23 pid bY bX live step start mix aE bA (.cons Z27.af .nil) Tryz.func45
end Z28
namespace Z29
def F (x0:bn):aJ:=(call (Z26.R x0.aG) fun v1=>(call (Z28.R x0.aW) fun v2=>ret ((⟨v1,v2⟩:bn):bn)))
def md (a0:aj):aj:=a0
def gd (a0:aj):Prop:=aj.Sm (2^36) a0
def R:=RR gd md
def an {a0}(h:gd a0):R (aj.r a0)=some (aj.r a0):=aP (a:=a0) h
def aU:=CN [.agg Bu] (.agg f37) RT.dec R
def bA (a0)(hg:gd a0):F (aj.r a0)=ret (aj.r (md a0)):=by
 unfold md
 show (call (Z26.R (a0.aG.map (dI aa.row))) fun v1=>(call (Z28.R (a0.aW.map az.row)) fun v2=>ret ((⟨v1,v2⟩:bn):bn)))=_
 rw [call_eq (Z26.an hg.1)]
 rw [call_eq (Z28.an hg.2)]
 rfl
def af:cD 11 aU:=W1 13 F mix aE bA (.cons Z26.af (.cons Z28.af .nil)) Tryz.func11
end Z29
namespace Z30
inductive Pt where
 | p0 (a:aB) (b:Int) (c:aB)
def pid:Pt->Nat
 | .p0 ..=>3
def bY:Pt->List V
 | .p0 a b c=>[.sl none 9 a,.own 0,.int .i64 b]
def bX:Pt->List aV
 | .p0 a b c=>[.row 9 c]
def step (J:Pt->aJ):Pt->aJ
 | .p0 a b c=>(cond (decide (b<(a.length:Int))) (m2 b (a.length:Int) (m2 b (c.length:Int) (J (.p0 a (i64.wrap (b+1)) (List.set c (toNat b) [L.str (pV a (toNat b))]))))) (ret (c:aB)))
def start (J:Pt->aJ)(x0:aB):aJ:=(cj (decide ((0:Int)<=(x0.length:Int))) (cj (decide ((x0.length:Int)<=(x0.length:Int))) (cj (decide ((x0.length:Int)*16<=140737488355328)) (J (.p0 x0 0 (List.replicate (toNat (x0.length:Int)) [L.str ⟨#[]⟩]))))))
def live:Nat->Live:=fun i=>match i with | 3=>[(0,none),(3,none),(4,none)] | _=>[]
def md (a0:List aD):List aD:=a0
def gd (a0:List aD):Prop:=bM (2^36) (fun y:aD=>y.size<=(2^36)) a0
def R:=RR gd md
def an {a0}(h:gd a0):R (a0.map cG)=some (a0.map cG):=aP (a:=a0) h
def aU:=CN [pL 9] (oL 9) RT.dec R
def bA (a0)(hg:gd a0):∃n,start (iter step n) (a0.map cG)=ret ((md a0).map cG):=by
 unfold start md
 simp only [List.length_map]
 refine iy (b:=16) (pt:=fun i c=>Pt.p0 (a0.map cG) (i:Int) c) (by have:=hg.1;simp at this;omega) (fun J i h c hc=>?_) (fun J c=>?_)
 ·simp only [step,MM,List.length_map,aK h,aI,bh,cz,pQ h,hc]
  rw [aH (n:=a0.length) h (by have:=hg.1;simp only [maxLen];simp at this;omega)]
  rfl
 ·simp only [step,List.length_map,dR,bu]
def af:cD 14 aU:=L1 22 pid bY bX live step start mix aE bA .nil Tryz.func14
end Z30
namespace Z31
def F (x0:aY):aJ:=(call (Z30.R x0.bK) fun v1=>ret ((⟨x0.bw,x0.bQ,x0.cw,v1⟩:aY):aY))
def md (a0:ah):ah:=a0
def gd (a0:ah):Prop:=ah.Sm (2^36) a0
def R:=RR gd md
def an {a0}(h:gd a0):R (ah.r a0)=some (ah.r a0):=aP (a:=a0) h
def aU:=CN [.agg Aw] (.agg f57) RT.dec R
def bA (a0)(hg:gd a0):F (ah.r a0)=ret (ah.r (md a0)):=by
 unfold md
 show (call (Z30.R (a0.bK.map cG)) fun v1=>ret ((⟨a0.bw,a0.bQ,a0.cw,v1⟩:aY):aY))=_
 rw [call_eq (Z30.an hg.2)]
 rfl
def af:cD 183 aU:=W1 18 F mix aE bA (.cons Z30.af .nil) Tryz.func183
end Z31
namespace Z32
inductive Pt where
 | p0 (a:aB) (b:Int) (c:aB)
def pid:Pt->Nat
 | .p0 ..=>3
def bY:Pt->List V
 | .p0 a b c=>[.sl none 235 a,.own 0,.int .i64 b]
def bX:Pt->List aV
 | .p0 a b c=>[.row 57 c]
def step (J:Pt->aJ):Pt->aJ
 | .p0 a b c=>(cond (decide (b<(a.length:Int))) (m2 b (a.length:Int) (call (Z31.R (aY.at a (toNat b))) fun v1=>(m2 b (c.length:Int) (J (.p0 a (i64.wrap (b+1)) (List.set c (toNat b) (aY.enc v1))))))) (ret (c:aB)))
def start (J:Pt->aJ)(x0:aB):aJ:=(cj (decide ((0:Int)<=(x0.length:Int))) (cj (decide ((x0.length:Int)<=(x0.length:Int))) (cj (decide ((x0.length:Int)*56<=140737488355328)) (J (.p0 x0 0 (List.replicate (toNat (x0.length:Int)) [L.str ⟨#[]⟩,L.int 0,L.int 0,L.sl []]))))))
def live:Nat->Live:=fun i=>match i with | 3=>[(0,none),(3,none),(4,none)] | _=>[]
def md (a0:List ah):List ah:=a0
def gd (a0:List ah):Prop:=bM (2^36) (fun y:ah=>ah.Sm (2^36) y) a0
def R:=RR gd md
def an {a0}(h:gd a0):R (a0.map ah.row)=some (a0.map ah.row):=aP (a:=a0) h
def aU:=CN [pL 235] (oL 57) RT.dec R
def bA (a0)(hg:gd a0):∃n,start (iter step n) (a0.map ah.row)=ret ((md a0).map ah.row):=by
 unfold start md
 simp only [List.length_map]
 refine iy (b:=56) (pt:=fun i c=>Pt.p0 (a0.map ah.row) (i:Int) c) (by have:=hg.1;simp at this;omega) (fun J i h c hc=>?_) (fun J c=>?_)
 ·simp only [step,MM,List.length_map,aK h,aI,bh,cz,ah.dV h,hc]
  rw [call_eq (Z31.an (hg.get h))]
  try simp only [hc,aK h,bh]
  rw [aH (n:=a0.length) h (by have:=hg.1;simp only [maxLen];simp at this;omega)]
  rfl
 ·simp only [step,List.length_map,dR,bu]
def af:cD 147 aU:=L1 23 pid bY bX live step start mix aE bA (.cons Z31.af .nil) Tryz.func147
end Z32
namespace Z33
def F (x0:dN):aJ:=(call (Z25.R x0.aT) fun v1=>(call (Z32.R x0.bN) fun v2=>ret ((⟨v1,v2⟩:dN):dN)))
def md (a0:aM):aM:=a0
def gd (a0:aM):Prop:=aM.Sm (2^36) a0
def R:=RR gd md
def an {a0}(h:gd a0):R (aM.r a0)=some (aM.r a0):=aP (a:=a0) h
def aU:=CN [.agg Av] (.agg f155) RT.dec R
def bA (a0)(hg:gd a0):F (aM.r a0)=ret (aM.r (md a0)):=by
 unfold md
 show (call (Z25.R (a0.aT.map aa.row)) fun v1=>(call (Z32.R (a0.bN.map ah.row)) fun v2=>ret ((⟨v1,v2⟩:dN):dN)))=_
 rw [call_eq (Z25.an hg.1)]
 rw [call_eq (Z32.an hg.2)]
 rfl
def af:cD 117 aU:=W1 13 F mix aE bA (.cons Z25.af (.cons Z32.af .nil)) Tryz.func117
end Z33
namespace Z34
inductive Pt where
 | p0 (a:aB) (b:Int) (c:aB)
def pid:Pt->Nat
 | .p0 ..=>3
def bY:Pt->List V
 | .p0 a b c=>[.sl none 183 a,.own 0,.int .i64 b]
def bX:Pt->List aV
 | .p0 a b c=>[.row 155 c]
def step (J:Pt->aJ):Pt->aJ
 | .p0 a b c=>(cond (decide (b<(a.length:Int))) (m2 b (a.length:Int) (call (Z33.R (dN.at a (toNat b))) fun v1=>(m2 b (c.length:Int) (J (.p0 a (i64.wrap (b+1)) (List.set c (toNat b) (dN.enc v1))))))) (ret (c:aB)))
def start (J:Pt->aJ)(x0:aB):aJ:=(cj (decide ((0:Int)<=(x0.length:Int))) (cj (decide ((x0.length:Int)<=(x0.length:Int))) (cj (decide ((x0.length:Int)*48<=140737488355328)) (J (.p0 x0 0 (List.replicate (toNat (x0.length:Int)) [L.sl [],L.sl []]))))))
def live:Nat->Live:=fun i=>match i with | 3=>[(0,none),(3,none),(4,none)] | _=>[]
def md (a0:List aM):List aM:=a0
def gd (a0:List aM):Prop:=bM (2^36) (fun y:aM=>aM.Sm (2^36) y) a0
def R:=RR gd md
def an {a0}(h:gd a0):R (a0.map aM.row)=some (a0.map aM.row):=aP (a:=a0) h
def aU:=CN [pL 183] (oL 155) RT.dec R
def bA (a0)(hg:gd a0):∃n,start (iter step n) (a0.map aM.row)=ret ((md a0).map aM.row):=by
 unfold start md
 simp only [List.length_map]
 refine iy (b:=48) (pt:=fun i c=>Pt.p0 (a0.map aM.row) (i:Int) c) (by have:=hg.1;simp at this;omega) (fun J i h c hc=>?_) (fun J c=>?_)
 ·simp only [step,MM,List.length_map,aK h,aI,bh,cz,aM.dV h,hc]
  rw [call_eq (Z33.an (hg.get h))]
  try simp only [hc,aK h,bh]
  rw [aH (n:=a0.length) h (by have:=hg.1;simp only [maxLen];simp at this;omega)]
  rfl
 ·simp only [step,List.length_map,dR,bu]
def af:cD 88 aU:=L1 23 pid bY bX live step start mix aE bA (.cons Z33.af .nil) Tryz.func88
end Z34
namespace Z35
def F (x0:cM):aJ:=(call (Z34.R x0.bI) fun v1=>ret ((⟨v1,x0.gH⟩:cM):cM))
def md (a0:au):au:=a0
def gd (a0:au):Prop:=au.Sm (2^36) a0
def R:=RR gd md
def an {a0}(h:gd a0):R (au.r a0)=some (au.r a0):=aP (a:=a0) h
def aU:=CN [.agg BG] (.agg f88) RT.dec R
def bA (a0)(hg:gd a0):F (au.r a0)=ret (au.r (md a0)):=by
 unfold md
 show (call (Z34.R (a0.bI.map aM.row)) fun v1=>ret ((⟨v1,a0.gH⟩:cM):cM))=_
 rw [call_eq (Z34.an hg)]
 rfl
def af:cD 46 aU:=W1 12 F mix aE bA (.cons Z34.af .nil) Tryz.func46
end Z35
namespace Z36
inductive Pt where
 | p0 (a:aB) (b:Int) (c:aB)
def pid:Pt->Nat
 | .p0 ..=>3
def bY:Pt->List V
 | .p0 a b c=>[.sl none 78 a,.own 0,.int .i64 b]
def bX:Pt->List aV
 | .p0 a b c=>[.row 88 c]
def step (J:Pt->aJ):Pt->aJ
 | .p0 a b c=>(cond (decide (b<(a.length:Int))) (m2 b (a.length:Int) (call (Z35.R (cM.at a (toNat b))) fun v1=>(m2 b (c.length:Int) (J (.p0 a (i64.wrap (b+1)) (List.set c (toNat b) (cM.enc v1))))))) (ret (c:aB)))
def start (J:Pt->aJ)(x0:aB):aJ:=(cj (decide ((0:Int)<=(x0.length:Int))) (cj (decide ((x0.length:Int)<=(x0.length:Int))) (cj (decide ((x0.length:Int)*32<=140737488355328)) (J (.p0 x0 0 (List.replicate (toNat (x0.length:Int)) [L.sl [],L.int 0]))))))
def live:Nat->Live:=fun i=>match i with | 3=>[(0,none),(3,none),(4,none)] | _=>[]
def md (a0:List au):List au:=a0
def gd (a0:List au):Prop:=bM (2^36) (fun y:au=>au.Sm (2^36) y) a0
def R:=RR gd md
def an {a0}(h:gd a0):R (a0.map au.row)=some (a0.map au.row):=aP (a:=a0) h
def aU:=CN [pL 78] (oL 88) RT.dec R
def bA (a0)(hg:gd a0):∃n,start (iter step n) (a0.map au.row)=ret ((md a0).map au.row):=by
 unfold start md
 simp only [List.length_map]
 refine iy (b:=32) (pt:=fun i c=>Pt.p0 (a0.map au.row) (i:Int) c) (by have:=hg.1;simp at this;omega) (fun J i h c hc=>?_) (fun J c=>?_)
 ·simp only [step,MM,List.length_map,aK h,aI,bh,cz,au.dV h,hc]
  rw [call_eq (Z35.an (hg.get h))]
  try simp only [hc,aK h,bh]
  rw [aH (n:=a0.length) h (by have:=hg.1;simp only [maxLen];simp at this;omega)]
  rfl
 ·simp only [step,List.length_map,dR,bu]
def af:cD 12 aU:=L1 23 pid bY bX live step start mix aE bA (.cons Z35.af .nil) Tryz.func12
end Z36
namespace Z37
def F (x0:bg):aJ:=ret (x0:bg)
def md (a0:bg):bg:=a0
def gd (a0:bg):Prop:=bg.Sm (2^36) a0
def R:=RR gd md
def an {a0}(h:gd a0):R a0=some a0:=aP (a:=a0) h
def aU:=CN [.agg BS] (.agg f83) RT.dec R
def bA (a0)(hg:gd a0):F a0=ret (md a0):=by
 unfold md
 show ret (a0:bg)=_
 rfl
def af:cD 47 aU:=W1 11 F mix aE bA .nil Tryz.func47
end Z37
namespace Z38
inductive Pt where
 | p0 (a:aB) (b:Int) (c:aB)
def pid:Pt->Nat
 | .p0 ..=>3
def bY:Pt->List V
 | .p0 a b c=>[.sl none 81 a,.own 0,.int .i64 b]
def bX:Pt->List aV
 | .p0 a b c=>[.row 83 c]
def step (J:Pt->aJ):Pt->aJ
 | .p0 a b c=>(cond (decide (b<(a.length:Int))) (m2 b (a.length:Int) (call (Z37.R (bg.at a (toNat b))) fun v1=>(m2 b (c.length:Int) (J (.p0 a (i64.wrap (b+1)) (List.set c (toNat b) (bg.enc v1))))))) (ret (c:aB)))
def start (J:Pt->aJ)(x0:aB):aJ:=(cj (decide ((0:Int)<=(x0.length:Int))) (cj (decide ((x0.length:Int)<=(x0.length:Int))) (cj (decide ((x0.length:Int)*24<=140737488355328)) (J (.p0 x0 0 (List.replicate (toNat (x0.length:Int)) [L.str ⟨#[]⟩,L.int 0]))))))
def live:Nat->Live:=fun i=>match i with | 3=>[(0,none),(3,none),(4,none)] | _=>[]
def md (a0:List bg):List bg:=a0
def gd (a0:List bg):Prop:=bM (2^36) (fun y:bg=>bg.Sm (2^36) y) a0
def R:=RR gd md
def an {a0}(h:gd a0):R (a0.map bg.row)=some (a0.map bg.row):=aP (a:=a0) h
def aU:=CN [pL 81] (oL 83) RT.dec R
def bA (a0)(hg:gd a0):∃n,start (iter step n) (a0.map bg.row)=ret ((md a0).map bg.row):=by
 unfold start md
 simp only [List.length_map]
 refine iy (b:=24) (pt:=fun i c=>Pt.p0 (a0.map bg.row) (i:Int) c) (by have:=hg.1;simp at this;omega) (fun J i h c hc=>?_) (fun J c=>?_)
 ·simp only [step,MM,List.length_map,aK h,aI,bh,cz,bg.dV h,hc]
  rw [call_eq (Z37.an (hg.get h))]
  try simp only [hc,aK h,bh]
  rw [aH (n:=a0.length) h (by have:=hg.1;simp only [maxLen];simp at this;omega)]
  rfl
 ·simp only [step,List.length_map,dR,bu]
def af:cD 13 aU:=L1 23 pid bY bX live step start mix aE bA (.cons Z37.af .nil) Tryz.func13
end Z38
namespace Z39
def F (x0:bE):aJ:=(cj (eS ((x0.aX.length:Int)*8)) (ret (x0:bE)))
def md (a0:aO):aO:=a0
def gd (a0:aO):Prop:=(aO.Sm (2^21) a0)
def R:=RR gd md
def an {a0}(h:gd a0):R (aO.r a0)=some (aO.r a0):=aP (a:=a0) h
def aU:=CN [.agg iV] (.agg f136) RT.dec R
def bA (a0)(hg:gd a0):F (aO.r a0)=ret (aO.r (md a0)):=by
 unfold gd at hg
 have H0:=hg
 unfold F md
 try simp only [SS]
 refine ak (have:=(H0).1;lm) ?_
 all_goals exact fz
def af:cD 154 aU:=W1 10 F mix aE bA .nil Tryz.func154
end Z39
namespace Z40
def F (x0:cg):aJ:=(call (Z39.R x0.bR) fun v1=>(call (Z39.R x0.bD) fun v2=>(call (Z39.R x0.bB) fun v3=>ret ((⟨x0.bz,x0.cI,x0.bQ,x0.cF,x0.cC,x0.cu,x0.cW,x0.dy,v1,v2,x0.cY,v3,x0.bF⟩:cg):cg))))
def md (a0:aF):aF:=a0
def gd (a0:aF):Prop:=(aF.Sm (2^21) a0)
def R:=RR gd md
def an {a0}(h:gd a0):R (aF.r a0)=some (aF.r a0):=aP (a:=a0) h
def aU:=CN [.agg fX] (.agg f138) RT.dec R
def bA (a0)(hg:gd a0):F (aF.r a0)=ret (aF.r (md a0)):=by
 unfold gd at hg
 have H0:=hg
 unfold F md
 try simp only [SS]
 refine ct (Z39.an H0.1) ?_
 try simp only [SS]
 refine ct (Z39.an H0.2.1) ?_
 try simp only [SS]
 refine ct (Z39.an H0.2.2) ?_
 try simp only [SS]
 all_goals exact fz
def af:cD 122 aU:=W1 18 F mix aE bA (.cons Z39.af .nil) Tryz.func122
end Z40
namespace Z41
def F (x0:aR):aJ:=(call (Z40.R x0.aq) fun v1=>(cj (eS ((x0.cm.length:Int)*16)) (ret ((⟨v1,x0.cm⟩:aR):aR))))
def md (a0:aa):aa:=a0
def gd (a0:aa):Prop:=(aa.Sm (2^21) a0)
def R:=RR gd md
def an {a0}(h:gd a0):R (aa.r a0)=some (aa.r a0):=aP (a:=a0) h
def aU:=CN [.agg ku] (.agg f141) RT.dec R
def bA (a0)(hg:gd a0):F (aa.r a0)=ret (aa.r (md a0)):=by
 unfold gd at hg
 have H0:=hg
 unfold F md
 try simp only [SS]
 refine ct (Z40.an H0.1) ?_
 try simp only [SS]
 refine ak (have:=(H0.2).1;lm) ?_
 all_goals exact fz
def af:cD 115 aU:=W1 11 F mix aE bA (.cons Z40.af .nil) Tryz.func115
end Z41
namespace Z42
inductive Pt where
 | p0 (a:aB) (b:Int) (c:aB)
def pid:Pt->Nat
 | .p0 ..=>3
def bY:Pt->List V
 | .p0 a b c=>[.sl none 141 a,.own 0,.int .i64 b]
def bX:Pt->List aV
 | .p0 a b c=>[.row 141 c]
def step (J:Pt->aJ):Pt->aJ
 | .p0 a b c=>(cond (decide (b<(a.length:Int))) (m2 b (a.length:Int) (call (Z41.R (aR.at a (toNat b))) fun v1=>(cj (eS (((c.length:Int)+1)*200)) (J (.p0 a (i64.wrap (b+1)) (c++[(aR.enc v1)])))))) (ret (c:aB)))
def start (J:Pt->aJ)(x0:aB):aJ:=J (.p0 x0 0 [])
def live:Nat->Live:=fun i=>match i with | 3=>[(0,none),(3,some 141),(4,none)] | _=>[]
def md (a0:List aa):List aa:=a0
def gd (a0:List aa):Prop:=(bM (2^21) (fun y:aa=>aa.Sm (2^21) y) a0)
def R:=RR gd md
def an {a0}(h:gd a0):R (a0.map aa.row)=some (a0.map aa.row):=aP (a:=a0) h
def aU:=CN [pL 141] (oL 141) RT.dec R
def bA (a0)(hg:gd a0):∃n,start (iter step n) (a0.map aa.row)=ret ((md a0).map aa.row):=by
 unfold gd at hg
 have H0:=hg
 unfold start md
 try simp only [SS]
 have Bh2:a0.length<=maxLen:=(by
   have:=(H0).1
   try simp only [maxLen] at *
   omega)
 refine ex_eq (out:=(fun b:List aa=>ret ((b.map aa.row):aB))) (ir (xs:=a0) (z:=aa.zero) (t:=fun s3:List aa=>s3)) ?_
 refine dM (p:=Pt.p0 (a0.map aa.row) 0 ([].map aa.row)) fz ?_
 refine ck (pt:=fun (i1:Nat) (s3:List aa)=>Pt.p0 (a0.map aa.row) (i1:Int) (s3.map aa.row)) (s:=([]:List aa)) (out:=(fun b:List aa=>ret ((b.map aa.row):aB))) (fun (i1:Nat) (s3:List aa)=>s3.length<=([]:List Int).length+1*i1) (fun J i1 s3 h2 hih2=>?_) (fun s3 hih2=>?_) (by simp)
 ·simp only [step,SS]
  have gr_:=hih2
  try simp only [LN] at gr_
  have bb_:=Bh2
  simp only [maxLen] at bb_
  have:=(H0).1
  refine bC.yes (by apply decide_eq_true;omega) ?_
  refine bC.yes aI ?_
  refine bC.yes (aK h2) ?_
  refine cr (Z41.an (bM.getD (z:=aa.zero) H0 h2)) ?_
  try simp only [SS]
  refine bC.yes lm ?_
  refine bC.inl (by
    have g_:=hih2
    try simp only [LN] at g_ ⊢
    first | omega | (simp;done) | (simp;omega)) ?_
  rw [aH h2 Bh2]
  all_goals exact fz
 ·simp only [step,SS]
  have gr_:=hih2
  try simp only [LN] at gr_
  have:=(H0).1
  refine dx (by apply decide_eq_false;omega) ?_
  refine ⟨0,?_⟩
  all_goals exact fz
def af:cD 84 aU:=L1 21 pid bY bX live step start mix aE bA (.cons Z41.af .nil) Tryz.func84
end Z42
namespace Z43
def F (x0:bJ):aJ:=(call (Z41.R x0.aS) fun v1=>(call (Z41.R x0.fA) fun v2=>(call (Z41.R x0.fB) fun v3=>ret ((⟨v1,v2,v3⟩:bJ):bJ))))
def md (a0:az):az:=a0
def gd (a0:az):Prop:=(az.Sm (2^21) a0)
def R:=RR gd md
def an {a0}(h:gd a0):R (az.r a0)=some (az.r a0):=aP (a:=a0) h
def aU:=CN [.agg sQ] (.agg f143) RT.dec R
def bA (a0)(hg:gd a0):F (az.r a0)=ret (az.r (md a0)):=by
 unfold gd at hg
 have H0:=hg
 unfold F md
 try simp only [SS]
 refine ct (Z41.an H0.1) ?_
 try simp only [SS]
 refine ct (Z41.an H0.2.1) ?_
 try simp only [SS]
 refine ct (Z41.an H0.2.2) ?_
 try simp only [SS]
 all_goals exact fz
def af:cD 85 aU:=W1 13 F mix aE bA (.cons Z41.af .nil) Tryz.func85
end Z43
namespace Z44
inductive Pt where
 | p0 (a:Int) (b:bn) (c:aB)
 | p1 (a:Int) (b:bn) (c d:aB)
def pid:Pt->Nat
 | .p0 ..=>3
 | .p1 ..=>7
def bY:Pt->List V
 | .p0 a b c=>[.cN 0 0,.cN 1 0,.cN 2 0,.int .i64 a,.cN 2 0]
 | .p1 a b c d=>[.cN 0 0,.cN 1 0,.cN 2 0,.int .i64 a,.cN 2 0,.cN 2 0]
def bX:Pt->List aV
 | .p0 a b c=>[.box [.sl none 134 b.aG,.sl none 143 b.aW],.box [.nil,.nil],.box [.own 3,.nil],.row 134 c]
 | .p1 a b c d=>[.box [.sl none 134 b.aG,.sl none 143 b.aW],.box [.nil,.nil],.box [.own 3,.own 4],.row 134 c,.row 143 d]
def step (J:Pt->aJ):Pt->aJ
 | .p0 a b c=>(cond (decide (a<(b.aG.length:Int))) (m2 a (b.aG.length:Int) (call (Z42.R (oq b.aG (toNat a))) fun v1=>(cj (eS (((c.length:Int)+1)*24)) (J (.p0 (i64.wrap (a+1)) b (c++[[L.sl v1]])))))) (J (.p1 0 b c [])))
 | .p1 a b c d=>(cond (decide (a<(b.aW.length:Int))) (m2 a (b.aW.length:Int) (call (Z43.R (bJ.at b.aW (toNat a))) fun v1=>(cj (eS (((d.length:Int)+1)*600)) (J (.p1 (i64.wrap (a+1)) b c (d++[(bJ.enc v1)])))))) (ret ((⟨c,d⟩:bn):bn)))
def start (J:Pt->aJ)(x0:bn):aJ:=J (.p0 0 x0 [])
def live:Nat->Live:=fun i=>match i with | 3=>[(1,none),(2,none),(3,none),(4,none),(3,some 134)] | 7=>[(1,none),(2,none),(3,none),(5,none),(3,some 134),(3,some 1048719)] | _=>[]
def md (a0:aj):aj:=a0
def gd (a0:aj):Prop:=(aj.Sm (2^21) a0)
def R:=RR gd md
def an {a0}(h:gd a0):R (aj.r a0)=some (aj.r a0):=aP (a:=a0) h
def aU:=CN [.agg rT] (.agg f37) RT.dec R
def bA (a0)(hg:gd a0):∃n,start (iter step n) (aj.r a0)=ret (aj.r (md a0)):=by
 unfold gd at hg
 have H0:=hg
 unfold start md
 try simp only [SS]
 have Bh2:a0.aG.length<=maxLen:=(by
   have:=(H0.1).1
   try simp only [maxLen] at *
   omega)
 refine ex_eq (out:=(fun b:aj=>ret ((aj.r b):bn))) (ir (xs:=a0.aG) (z:=[]) (t:=fun s3:List (List aa)=>(⟨s3,a0.aW⟩:aj))) ?_
 refine dM (p:=Pt.p0 0 (aj.r a0) ([].map (dI aa.row))) fz ?_
 refine ck (pt:=fun (i1:Nat) (s3:List (List aa))=>Pt.p0 (i1:Int) (aj.r a0) (s3.map (dI aa.row))) (s:=([]:List (List aa))) (out:=(fun b:aj=>ret ((aj.r b):bn))) (fun (i1:Nat) (s3:List (List aa))=>s3.length<=([]:List Int).length+1*i1) (fun J i1 s3 h2 hih2=>?_) (fun s3 hih2=>?_) (by simp)
 ·simp only [step,SS]
  have gr_:=hih2
  try simp only [LN] at gr_
  have bb_:=Bh2
  simp only [maxLen] at bb_
  have:=(H0.1).1
  refine bC.yes (by apply decide_eq_true;omega) ?_
  refine bC.yes aI ?_
  refine bC.yes (aK h2) ?_
  refine cr (Z42.an (bM.getD (z:=[]) H0.1 h2)) ?_
  try simp only [SS]
  refine bC.yes lm ?_
  refine bC.inl (by
    have g_:=hih2
    try simp only [LN] at g_ ⊢
    first | omega | (simp;done) | (simp;omega)) ?_
  rw [aH h2 Bh2]
  all_goals exact fz
 ·simp only [step,SS]
  have gr_:=hih2
  try simp only [LN] at gr_
  have:=(H0.1).1
  refine dx (by apply decide_eq_false;omega) ?_
  have Bh5:a0.aW.length<=maxLen:=(by
    have:=(H0.2).1
    try simp only [maxLen] at *
    omega)
  refine ex_eq (out:=(fun b:aj=>ret ((aj.r b):bn))) (ir (xs:=a0.aW) (z:=az.zero) (t:=fun s6:List az=>(⟨s3,s6⟩:aj))) ?_
  refine dM (p:=Pt.p1 0 (aj.r a0) (s3.map (dI aa.row)) ([].map az.row)) fz ?_
  refine ck (pt:=fun (i4:Nat) (s6:List az)=>Pt.p1 (i4:Int) (aj.r a0) (s3.map (dI aa.row)) (s6.map az.row)) (s:=([]:List az)) (out:=(fun b:aj=>ret ((aj.r b):bn))) (fun (i4:Nat) (s6:List az)=>s6.length<=([]:List Int).length+1*i4) (fun J i4 s6 h5 hih5=>?_) (fun s6 hih5=>?_) (by simp)
  ·simp only [step,SS]
   have gr_:=hih5
   try simp only [LN] at gr_
   have bb_:=Bh5
   simp only [maxLen] at bb_
   have:=(H0.2).1
   refine bC.yes (by apply decide_eq_true;omega) ?_
   refine bC.yes aI ?_
   refine bC.yes (aK h5) ?_
   refine cr (Z43.an (bM.getD (z:=az.zero) H0.2 h5)) ?_
   try simp only [SS]
   refine bC.yes lm ?_
   refine bC.inl (by
     have g_:=hih5
     try simp only [LN] at g_ ⊢
     first | omega | (simp;done) | (simp;omega)) ?_
   rw [aH h5 Bh5]
   all_goals exact fz
  ·simp only [step,SS]
   have gr_:=hih5
   try simp only [LN] at gr_
   have:=(H0.2).1
   refine dx (by apply decide_eq_false;omega) ?_
   refine ⟨0,?_⟩
   all_goals exact fz
def af:cD 43 aU:=L1 44 pid bY bX live step start mix aE bA (.cons Z42.af (.cons Z43.af .nil)) Tryz.func43
end Z44
namespace Z45
def F (x0 x1 x2:Int):aJ:=(cond (decide (x0>=x1)) (ret ((decide (x0<=x2)):Bool)) bf)
def md (a0 a1 a2:Int):Bool:=(cond (decide (a0>=a1)) ((decide (a0<=a2)):Bool) (false:Bool))
def gd (a0 a1 a2:Int):Prop:=True
def R:=RR (p3 gd) (u3 md)
def an {a0 a1 a2}(h:gd a0 a1 a2):R (a0,a1,a2)=some (md a0 a1 a2):=aP (a:=(a0,a1,a2)) h
def aU:=CN [pI,pI,pI] oB RT.dec R
def bA (a0)(a1)(a2)(hg:gd a0 a1 a2):F a0 a1 a2=ret (md a0 a1 a2):=by
 unfold F md
 try simp only [SS]
 refine av ret (fun c1=>?_) (fun _=>rfl)
 all_goals exact fz
def af:cD 100 aU:=W3 15 F mix aE bA .nil Tryz.func100
end Z45
namespace Z46
inductive Pt where
 | p0 (a:aD) (b:Int)
def pid:Pt->Nat
 | .p0 ..=>4
def bY:Pt->List V
 | .p0 a b=>[.str a,.int .i64 b]
def bX:Pt->List aV
 | .p0 a b=>[]
def step (J:Pt->aJ):Pt->aJ
 | .p0 a b=>(cond (decide (b<(a.size:Int))) (m2 b (a.size:Int) (cond (decide ((dZ a (toNat b))<97)) (m2 b (a.size:Int) (cond (decide ((dZ a (toNat b))<48)) (m2 b (a.size:Int) (cond ((dZ a (toNat b)) != 45) bf (J (.p0 a (i64.wrap (b+1)))))) (m2 b (a.size:Int) (cond (decide ((dZ a (toNat b))>57)) (m2 b (a.size:Int) (cond ((dZ a (toNat b)) != 45) bf (J (.p0 a (i64.wrap (b+1)))))) (J (.p0 a (i64.wrap (b+1)))))))) (m2 b (a.size:Int) (cond (decide ((dZ a (toNat b))>122)) (m2 b (a.size:Int) (cond (decide ((dZ a (toNat b))<48)) (m2 b (a.size:Int) (cond ((dZ a (toNat b)) != 45) bf (J (.p0 a (i64.wrap (b+1)))))) (m2 b (a.size:Int) (cond (decide ((dZ a (toNat b))>57)) (m2 b (a.size:Int) (cond ((dZ a (toNat b)) != 45) bf (J (.p0 a (i64.wrap (b+1)))))) (J (.p0 a (i64.wrap (b+1)))))))) (J (.p0 a (i64.wrap (b+1)))))))) eu)
def start (J:Pt->aJ)(x0:aD):aJ:=(call (Z45.R ((x0.size:Int),1,8)) fun v1=>(cond (!v1) bf (cj (decide ((0:Int)<(x0.size:Int))) (cond ((dZ x0 0)==45) bf (cj (decide ((0:Int)<=(i64.wrap ((x0.size:Int) - 1)))) (cj (decide ((i64.wrap ((x0.size:Int) - 1))<(x0.size:Int))) (cond ((dZ x0 (toNat (i64.wrap ((x0.size:Int) - 1))))==45) bf (J (.p0 x0 0)))))))))
def live:Nat->Live:=fun i=>match i with | 4=>[(0,none),(3,none)] | _=>[]
def md (a0:aD):Bool:=(bif (!(Z45.md (a0.size:Int) 1 8)) then (false:Bool) else (bif ((dZ a0 0)==45) then (false:Bool) else (bif ((dZ a0 (toNat (i64.wrap ((a0.size:Int) - 1))))==45) then (false:Bool) else (eo (S:=Unit) (β:=Bool) (fun (i4:Nat) (s6:Unit)=>(cond (decide ((dZ a0 i4)<97)) (cond (decide ((dZ a0 i4)<48)) (cond ((dZ a0 i4) != 45) (.inr (false:Bool)) (.inl ())) (cond (decide ((dZ a0 i4)>57)) (cond ((dZ a0 i4) != 45) (.inr (false:Bool)) (.inl ())) (.inl ()))) (cond (decide ((dZ a0 i4)>122)) (cond (decide ((dZ a0 i4)<48)) (cond ((dZ a0 i4) != 45) (.inr (false:Bool)) (.inl ())) (cond (decide ((dZ a0 i4)>57)) (cond ((dZ a0 i4) != 45) (.inr (false:Bool)) (.inl ())) (.inl ()))) (.inl ())))) (fun (s6:Unit)=>(true:Bool)) a0.size 0 ()))))
def gd (a0:aD):Prop:=(a0.size<=(2^22))
def R:=RR gd md
def an {a0}(h:gd a0):R a0=some (md a0):=aP (a:=a0) h
def aU:=CN [pS] oB RT.dec R
def bA (a0)(hg:gd a0):∃n,start (iter step n) a0=ret (md a0):=by
 unfold gd at hg
 have H0:=hg
 unfold start md
 try simp only [SS]
 refine cx (Z45.an trivial) ?_
 refine gR ret (fun _=>⟨0,rfl⟩) (fun c1=>?_)
 have dc1:=c1
 try simp only [DC] at dc1
 have Dc1:=c1
 try simp [Z45.md] at Dc1
 refine dF (have:=H0;dt) ?_
 refine gR ret (fun _=>⟨0,rfl⟩) (fun c2=>?_)
 have dc2:=c2
 try simp only [DC] at dc2
 refine dF (have:=H0;dt) ?_
 refine dF (have:=H0;dt) ?_
 refine gR ret (fun _=>⟨0,rfl⟩) (fun c3=>?_)
 have dc3:=c3
 try simp only [DC] at dc3
 have Bh5:a0.size<=maxLen:=(by
   have:=H0
   try simp only [maxLen] at *
   omega)
 refine dM (p:=Pt.p0 a0 0) fz ?_
 refine ck (pt:=fun (i4:Nat) (s6:Unit)=>Pt.p0 a0 (i4:Int)) (s:=(():Unit)) (out:=ret) (fun _ _=>True) (fun J i4 s6 h5 hih5=>?_) (fun s6 hih5=>?_) trivial
 ·simp only [step,SS]
  have bb_:=Bh5
  simp only [maxLen] at bb_
  have:=H0
  refine bC.yes (by apply decide_eq_true;omega) ?_
  refine bC.yes aI ?_
  refine bC.yes (aK h5) ?_
  refine bC.bif (fun c7=>?_) (fun c7=>?_)
  ·refine bC.yes aI ?_
   refine bC.yes (aK h5) ?_
   refine bC.bif (fun c8=>?_) (fun c8=>?_)
   ·refine bC.yes aI ?_
    refine bC.yes (aK h5) ?_
    refine bC.bif (fun _=>bC.inr rfl) (fun c9=>?_)
    refine bC.inl trivial ?_
    rw [aH h5 Bh5]
    all_goals exact fz
   ·refine bC.yes aI ?_
    refine bC.yes (aK h5) ?_
    refine bC.bif (fun c10=>?_) (fun c10=>?_)
    ·refine bC.yes aI ?_
     refine bC.yes (aK h5) ?_
     refine bC.bif (fun _=>bC.inr rfl) (fun c11=>?_)
     refine bC.inl trivial ?_
     rw [aH h5 Bh5]
     all_goals exact fz
    ·refine bC.inl trivial ?_
     rw [aH h5 Bh5]
     all_goals exact fz
  ·refine bC.yes aI ?_
   refine bC.yes (aK h5) ?_
   refine bC.bif (fun c12=>?_) (fun c12=>?_)
   ·refine bC.yes aI ?_
    refine bC.yes (aK h5) ?_
    refine bC.bif (fun c13=>?_) (fun c13=>?_)
    ·refine bC.yes aI ?_
     refine bC.yes (aK h5) ?_
     refine bC.bif (fun _=>bC.inr rfl) (fun c14=>?_)
     refine bC.inl trivial ?_
     rw [aH h5 Bh5]
     all_goals exact fz
    ·refine bC.yes aI ?_
     refine bC.yes (aK h5) ?_
     refine bC.bif (fun c15=>?_) (fun c15=>?_)
     ·refine bC.yes aI ?_
      refine bC.yes (aK h5) ?_
      refine bC.bif (fun _=>bC.inr rfl) (fun c16=>?_)
      refine bC.inl trivial ?_
      rw [aH h5 Bh5]
      all_goals exact fz
     ·refine bC.inl trivial ?_
      rw [aH h5 Bh5]
      all_goals exact fz
   ·refine bC.inl trivial ?_
    rw [aH h5 Bh5]
    all_goals exact fz
 ·simp only [step,SS]
  have:=H0
  refine dx (by apply decide_eq_false;omega) ?_
  refine ⟨0,?_⟩
  all_goals exact fz
def af:cD 99 aU:=L1 55 pid bY bX live step start mix aE bA (.cons Z45.af .nil) Tryz.func99
def tr {a0:aD}(h:md a0=true):1<=a0.size/\a0.size<=8:=by
 unfold md at h
 cases e:Z45.md (a0.size:Int) 1 8
 ·rw [e] at h;cases h
 ·simp [Z45.md] at e;omega
end Z46
namespace Z47
inductive Pt where
 | p0 (a:aB) (b:Int)
def pid:Pt->Nat
 | .p0 ..=>2
def bY:Pt->List V
 | .p0 a b=>[.sl none 9 a,.int .i64 b]
def bX:Pt->List aV
 | .p0 a b=>[]
def step (J:Pt->aJ):Pt->aJ
 | .p0 a b=>(cond (decide (b<(a.length:Int))) (m2 b (a.length:Int) (call (Z46.R (pV a (toNat b))) fun v1=>(cond (!v1) bf (J (.p0 a (i64.wrap (b+1))))))) (call (Z45.R ((a.length:Int),1,4)) fun v2=>ret (v2:Bool)))
def start (J:Pt->aJ)(x0:aB):aJ:=J (.p0 x0 0)
def live:Nat->Live:=fun i=>match i with | 2=>[(0,none),(3,none)] | _=>[]
def md (a0:List aD):Bool:=(dQ (S:=Unit) (β:=Bool) (fun (y1:aD) (s3:Unit)=>(cond (!(Z46.md y1)) (.inr (false:Bool)) (.inl ()))) (fun (s3:Unit)=>((Z45.md (a0.length:Int) 1 4):Bool)) a0 ())
def gd (a0:List aD):Prop:=(bM (2^22) (fun y:aD=>y.size<=(2^22)) a0)
def R:=RR gd md
def an {a0}(h:gd a0):R (a0.map cG)=some (md a0):=aP (a:=a0) h
def aU:=CN [pL 9] oB RT.dec R
def bA (a0)(hg:gd a0):∃n,start (iter step n) (a0.map cG)=ret (md a0):=by
 unfold gd at hg
 have H0:=hg
 unfold start md
 try simp only [SS]
 have Bh2:a0.length<=maxLen:=(by
   have:=(H0).1
   try simp only [maxLen] at *
   omega)
 refine ex_eq (out:=ret) (ep (z:=⟨#[]⟩)) ?_
 refine dM (p:=Pt.p0 (a0.map cG) 0) fz ?_
 refine ck (pt:=fun (i1:Nat) (s3:Unit)=>Pt.p0 (a0.map cG) (i1:Int)) (s:=(():Unit)) (out:=ret) (fun _ _=>True) (fun J i1 s3 h2 hih2=>?_) (fun s3 hih2=>?_) trivial
 ·simp only [step,SS]
  have bb_:=Bh2
  simp only [maxLen] at bb_
  have:=(H0).1
  refine bC.yes (by apply decide_eq_true;omega) ?_
  refine bC.yes aI ?_
  refine bC.yes (aK h2) ?_
  refine cr (Z46.an (bM.getD (z:=⟨#[]⟩) H0 h2)) ?_
  refine bC.bif (fun _=>bC.inr rfl) (fun c4=>?_)
  refine bC.inl trivial ?_
  rw [aH h2 Bh2]
  all_goals exact fz
 ·simp only [step,SS]
  have:=(H0).1
  refine dx (by apply decide_eq_false;omega) ?_
  refine cx (Z45.an trivial) ?_
  refine ⟨0,?_⟩
  all_goals exact fz
def af:cD 62 aU:=L1 19 pid bY bX live step start mix aE bA (.cons Z46.af (.cons Z45.af .nil)) Tryz.func62
def tr {a0:List aD}(h:md a0=true):(1<=a0.length/\a0.length<=4)/\∀x∈a0,x.size<=8:=by
 have e:=lM (p:=fun y=>!(Z46.md y)) (b:=false) (c:=Z45.md (a0.length:Int) 1 4) (xs:=a0) (s:=())
 rw [show md a0=_ from e] at h
 cases ha:a0.any (fun y=>!(Z46.md y))<;>rw [ha] at h
 ·have h2:Z45.md (a0.length:Int) 1 4=true:=h
  simp [Z45.md] at h2
  refine ⟨by omega,fun x hx=>?_⟩
  rw [List.any_eq_false] at ha
  have:=ha x hx
  exact (Z46.tr (by simpa using this)).2
 ·cases h
def tl {x:aD}{xs:List aD}(h:md (x::xs)=true)(hx:¬xs.length=0):md xs=true:=by
 have key:∀a:List aD,md a=bif a.any (fun y=>!(Z46.md y)) then false else Z45.md (a.length:Int) 1 4:=fun a=>lM (p:=fun y=>!(Z46.md y)) (b:=false) (c:=Z45.md (a.length:Int) 1 4) (xs:=a) (s:=())
 have t:=tr h
 simp only [List.length_cons] at t
 rw [key] at h ⊢
 rw [List.any_cons] at h
 cases h1:xs.any (fun y=>!(Z46.md y)) with
 | true=>rw [h1,Bool.or_true] at h;cases h
 | false=>simp [Z45.md];omega
end Z47
namespace Z48
def F (x0:aB):aJ:=(cj (eS ((x0.length:Int)*16)) (ret (x0:aB)))
def md (a0:List aD):List aD:=a0
def gd (a0:List aD):Prop:=(bM (2^21) (fun y:aD=>y.size<=(2^21)) a0)
def R:=RR gd md
def an {a0}(h:gd a0):R (a0.map cG)=some (a0.map cG):=aP (a:=a0) h
def aU:=CN [pL 9] (oL 9) RT.dec R
def bA (a0)(hg:gd a0):F (a0.map cG)=ret ((md a0).map cG):=by
 unfold gd at hg
 have H0:=hg
 unfold F md
 try simp only [SS]
 refine ak (have:=(H0).1;lm) ?_
 all_goals exact fz
def af:cD 63 aU:=W1 6 F mix aE bA .nil Tryz.func63
end Z48
namespace Z49
inductive Pt where
 | p0 (a:Int) (b:bE)
def pid:Pt->Nat
 | .p0 ..=>2
def bY:Pt->List V
 | .p0 a b=>[.cN 0 0,.int .i64 a]
def bX:Pt->List aV
 | .p0 a b=>[.box [.sl none 3 b.aX,.int .i64 b.cE]]
def step (J:Pt->aJ):Pt->aJ
 | .p0 a b=>(cond (decide (a<(b.aX.length:Int))) (m2 a (b.aX.length:Int) (call (Z45.R ((jt b.aX (toNat a)),1,99)) fun v1=>(cond (!v1) bf (cond (decide (a>0)) (cj (decide ((0:Int)<=(i64.wrap (a - 1)))) (cj (decide ((i64.wrap (a - 1))<(b.aX.length:Int))) (m2 a (b.aX.length:Int) (cond (decide ((jt b.aX (toNat (i64.wrap (a - 1))))>=(jt b.aX (toNat a)))) bf (J (.p0 (i64.wrap (a+1)) b)))))) (J (.p0 (i64.wrap (a+1)) b)))))) (call (Z45.R ((b.aX.length:Int),1,4)) fun v2=>(cond v2 (call (Z45.R (b.cE,1,(b.aX.length:Int))) fun v3=>ret (v3:Bool)) bf)))
def start (J:Pt->aJ)(x0:bE):aJ:=J (.p0 0 x0)
def live:Nat->Live:=fun i=>match i with | 2=>[(1,none),(3,none)] | _=>[]
def md (a0:aO):Bool:=(dD (S:=Unit) (β:=Bool) (fun (i1:Nat) (y1:Int) (s3:Unit)=>(cond (!(Z45.md y1 1 99)) (.inr (false:Bool)) (cond (decide ((i1:Int)>0)) (cond (decide ((a0.aX.getD (toNat (i64.wrap ((i1:Int) - 1))) 0)>=y1)) (.inr (false:Bool)) (.inl ())) (.inl ())))) (fun (s3:Unit)=>(cond (Z45.md (a0.aX.length:Int) 1 4) ((Z45.md a0.cE 1 (a0.aX.length:Int)):Bool) (false:Bool))) 0 a0.aX ())
def gd (a0:aO):Prop:=(aO.Sm (2^21) a0)
def R:=RR gd md
def an {a0}(h:gd a0):R (aO.r a0)=some (md a0):=aP (a:=a0) h
def aU:=CN [.agg iV] oB RT.dec R
def bA (a0)(hg:gd a0):∃n,start (iter step n) (aO.r a0)=ret (md a0):=by
 unfold gd at hg
 have H0:=hg
 unfold start md
 try simp only [SS]
 have Bh2:a0.aX.length<=maxLen:=(by
   have:=(H0).1
   try simp only [maxLen] at *
   omega)
 refine ex_eq (out:=ret) (cV (z:=0)) ?_
 refine dM (p:=Pt.p0 0 (aO.r a0)) fz ?_
 refine ck (pt:=fun (i1:Nat) (s3:Unit)=>Pt.p0 (i1:Int) (aO.r a0)) (s:=(():Unit)) (out:=ret) (fun _ _=>True) (fun J i1 s3 h2 hih2=>?_) (fun s3 hih2=>?_) trivial
 ·simp only [step,SS]
  have bb_:=Bh2
  simp only [maxLen] at bb_
  have:=(H0).1
  refine bC.yes (by apply decide_eq_true;omega) ?_
  refine bC.yes aI ?_
  refine bC.yes (aK h2) ?_
  refine cr (Z45.an trivial) ?_
  refine bC.bif (fun _=>bC.inr rfl) (fun c4=>?_)
  have dc4:=c4
  try simp only [DC] at dc4
  have Dc4:=c4
  try simp [Z45.md] at Dc4
  refine bC.bif (fun c5=>?_) (fun c5=>?_)
  ·have dc5:=c5
   try simp only [DC] at dc5
   refine bC.yes dt ?_
   refine bC.yes (have:=(H0).1;dt) ?_
   refine bC.yes aI ?_
   refine bC.yes (aK h2) ?_
   refine bC.bif (fun _=>bC.inr rfl) (fun c6=>?_)
   refine bC.inl trivial ?_
   rw [aH h2 Bh2]
   all_goals exact fz
  ·refine bC.inl trivial ?_
   rw [aH h2 Bh2]
   all_goals exact fz
 ·simp only [step,SS]
  have:=(H0).1
  refine dx (by apply decide_eq_false;omega) ?_
  refine cx (Z45.an trivial) ?_
  refine gR ret (fun c7=>?_) (fun _=>⟨0,rfl⟩)
  refine cx (Z45.an trivial) ?_
  refine ⟨0,?_⟩
  all_goals exact fz
def af:cD 255 aU:=L1 48 pid bY bX live step start mix aE bA (.cons Z45.af .nil) Tryz.func255
def tr {a0:aO}(h:md a0=true):1<=a0.aX.length/\a0.aX.length<=4:=by
 refine Classical.byContradiction fun hc=>?_
 have e1:Z45.md (a0.aX.length:Int) 1 4=false:=by simp [Z45.md];omega
 unfold md at h
 rw [e1] at h
 have e2:∀s:Unit,(cond false (Z45.md a0.cE 1 (a0.aX.length:Int)) false)=false:=fun _=>rfl
 have h3:=lG (c:=false) (f:=fun (i1:Nat) (y1:Int) (s3:Unit)=>(cond (!(Z45.md y1 1 99)) (.inr (false:Bool)) (cond (decide ((i1:Int)>0)) (cond (decide ((a0.aX.getD (toNat (i64.wrap ((i1:Int) - 1))) 0)>=y1)) (.inr (false:Bool)) (.inl ())) (.inl ())))) (by
  intro i x s b h
  revert h
  simp only [Bool.cond_eq_ite]
  repeat' split
  all_goals (intro h;first | (cases h;rfl) | cases h)) a0.aX 0 ()
 simp only [bu] at h
 rw [h3] at h
 cases h
end Z49
namespace Z50
def F (x0:bE):aJ:=(cond (x0.cE==0) (ret (((x0.aX.length:Int)==0):Bool)) bf)
def md (a0:aO):Bool:=(cond (a0.cE==0) (((a0.aX.length:Int)==0):Bool) (false:Bool))
def gd (a0:aO):Prop:=True
def R:=RR gd md
def an {a0}(h:gd a0):R (aO.r a0)=some (md a0):=aP (a:=a0) h
def aU:=CN [.agg iV] oB RT.dec R
def bA (a0)(hg:gd a0):F (aO.r a0)=ret (md a0):=by
 unfold F md
 try simp only [SS]
 refine av ret (fun c1=>?_) (fun _=>rfl)
 all_goals exact fz
def af:cD 256 aU:=W1 12 F mix aE bA .nil Tryz.func256
end Z50
namespace Z51
def F (x0:cg):aJ:=(call (Z45.R (x0.bz,0,2147483646)) fun v1=>(cond (!v1) bf (call (Z45.R (x0.cW,0,2147483646)) fun v2=>(cond (!v2) bf (call (Z45.R (x0.dy,0,2147483646)) fun v3=>(cond (!v3) bf (call (Z45.R (x0.cI,0,200)) fun v4=>(cond (!v4) bf (call (Z45.R (x0.bQ,1,3)) fun v5=>(cond (!v5) bf (call (Z45.R (x0.cF,0,100000)) fun v6=>(cond (!v6) bf (call (Z45.R (x0.cC,x0.cF,100000)) fun v7=>(cond (!v7) bf (cond (decide ((i64.wrap (x0.cC - x0.cF))>200)) bf (call (Z45.R (x0.cu,0,12)) fun v8=>(cond (!v8) bf (call (Z49.R x0.bR) fun v9=>(cond (!v9) bf (call (Z50.R x0.bD) fun v10=>(cond v10 (cond (x0.cY != 0) bf (call (Z49.R x0.bB) fun v11=>(cond v11 eu (call (Z50.R x0.bB) fun v12=>(cond v12 (ret ((!x0.bF):Bool)) bf))))) (call (Z49.R x0.bD) fun v13=>(cond (!v13) bf (call (Z45.R (x0.cY,1,500)) fun v14=>(cond (!v14) bf (call (Z49.R x0.bB) fun v15=>(cond v15 eu (call (Z50.R x0.bB) fun v16=>(cond v16 (ret ((!x0.bF):Bool)) bf)))))))))))))))))))))))))))))
def md (a0:aF):Bool:=(cond (!(Z45.md a0.bz 0 2147483646)) (false:Bool) (cond (!(Z45.md a0.cW 0 2147483646)) (false:Bool) (cond (!(Z45.md a0.dy 0 2147483646)) (false:Bool) (cond (!(Z45.md a0.cI 0 200)) (false:Bool) (cond (!(Z45.md a0.bQ 1 3)) (false:Bool) (cond (!(Z45.md a0.cF 0 100000)) (false:Bool) (cond (!(Z45.md a0.cC a0.cF 100000)) (false:Bool) (cond (decide ((i64.wrap (a0.cC - a0.cF))>200)) (false:Bool) (cond (!(Z45.md a0.cu 0 12)) (false:Bool) (cond (!(Z49.md a0.bR)) (false:Bool) (cond (Z50.md a0.bD) (cond (a0.cY != 0) (false:Bool) (cond (Z49.md a0.bB) (true:Bool) (cond (Z50.md a0.bB) ((!a0.bF):Bool) (false:Bool)))) (cond (!(Z49.md a0.bD)) (false:Bool) (cond (!(Z45.md a0.cY 1 500)) (false:Bool) (cond (Z49.md a0.bB) (true:Bool) (cond (Z50.md a0.bB) ((!a0.bF):Bool) (false:Bool))))))))))))))))
def gd (a0:aF):Prop:=(aF.Sm (2^21) a0)
def R:=RR gd md
def an {a0}(h:gd a0):R (aF.r a0)=some (md a0):=aP (a:=a0) h
def aU:=CN [.agg fX] oB RT.dec R
def bA (a0)(hg:gd a0):F (aF.r a0)=ret (md a0):=by
 unfold gd at hg
 have H0:=hg
 unfold F md
 try simp only [SS]
 refine ct (Z45.an trivial) ?_
 refine av ret (fun _=>rfl) (fun c1=>?_)
 refine ct (Z45.an trivial) ?_
 refine av ret (fun _=>rfl) (fun c2=>?_)
 refine ct (Z45.an trivial) ?_
 refine av ret (fun _=>rfl) (fun c3=>?_)
 refine ct (Z45.an trivial) ?_
 refine av ret (fun _=>rfl) (fun c4=>?_)
 refine ct (Z45.an trivial) ?_
 refine av ret (fun _=>rfl) (fun c5=>?_)
 refine ct (Z45.an trivial) ?_
 refine av ret (fun _=>rfl) (fun c6=>?_)
 refine ct (Z45.an trivial) ?_
 refine av ret (fun _=>rfl) (fun c7=>?_)
 refine av ret (fun _=>rfl) (fun c8=>?_)
 refine ct (Z45.an trivial) ?_
 refine av ret (fun _=>rfl) (fun c9=>?_)
 refine ct (Z49.an H0.1) ?_
 refine av ret (fun _=>rfl) (fun c10=>?_)
 refine ct (Z50.an trivial) ?_
 refine av ret (fun c11=>?_) (fun c11=>?_)
 ·refine av ret (fun _=>rfl) (fun c12=>?_)
  refine ct (Z49.an H0.2.2) ?_
  refine av ret (fun _=>rfl) (fun c13=>?_)
  refine ct (Z50.an trivial) ?_
  refine av ret (fun c14=>?_) (fun _=>rfl)
  all_goals exact fz
 ·refine ct (Z49.an H0.2.1) ?_
  refine av ret (fun _=>rfl) (fun c15=>?_)
  refine ct (Z45.an trivial) ?_
  refine av ret (fun _=>rfl) (fun c16=>?_)
  refine ct (Z49.an H0.2.2) ?_
  refine av ret (fun _=>rfl) (fun c17=>?_)
  refine ct (Z50.an trivial) ?_
  refine av ret (fun c18=>?_) (fun _=>rfl)
  all_goals exact fz
def af:cD 226 aU:=W1 92 F mix aE bA (.cons Z45.af (.cons Z49.af (.cons Z50.af .nil))) Tryz.func226
def tr {a0:aF}(h:md a0=true):(1<=a0.bQ/\a0.bQ<=3)/\0<=a0.cF/\a0.cF<=a0.cC/\a0.cC<=100000/\0<=a0.cu/\a0.cu<=12:=by
 have key:∀x y z:Int,Z45.md x y z=true->y<=x/\x<=z:=fun x y z h=>by simpa [Z45.md] using h
 unfold md at h
 simp only [AT,Bool.not_not,Bool.and_eq_true] at h
 obtain ⟨_,_,_,_,h5,h6,h7,_,h8,_⟩:=h
 have:=key _ _ _ h5
 have:=key _ _ _ h6
 have:=key _ _ _ h7
 have:=key _ _ _ h8
 omega
end Z51
namespace Z52
def F (x0:bE):aJ:=(cj (eS (((2:Int)+(x0.aX.length:Int))*8)) (ret (([[L.int x0.cE],[L.int (x0.aX.length:Int)]]++x0.aX):aB)))
def md (a0:aO):List Int:=([a0.cE,(a0.aX.length:Int)]++a0.aX)
def gd (a0:aO):Prop:=(aO.Sm (2^21) a0)
def R:=RR gd md
def an {a0}(h:gd a0):R (aO.r a0)=some ((md a0).map bq):=aP (a:=a0) h
def aU:=CN [.agg iV] (oL 3) RT.dec R
def bA (a0)(hg:gd a0):F (aO.r a0)=ret ((md a0).map bq):=by
 unfold gd at hg
 have H0:=hg
 unfold F md
 try simp only [SS]
 refine ak (have:=(H0).1;lm) ?_
 all_goals exact fz
def af:cD 230 aU:=W1 12 F mix aE bA .nil Tryz.func230
def len (a0:aO):(md a0).length=2+a0.aX.length:=by simp [md];omega
end Z52
namespace Z53
def F (x0 x1:Int):aJ:=(call (Z45.R (x1,1,1000000000000)) fun v1=>(cond (!v1) (ret (0:Int)) (cond (decide (x1=0)) none (cond (decide (x1=0)) none (ret ((Int.tmod (i64.wrap ((Int.tmod x0 x1)+x1)) x1):Int))))))
def md (a0 a1:Int):Int:=(cond (!(Z45.md a1 1 1000000000000)) (0:Int) ((Int.tmod (i64.wrap ((Int.tmod a0 a1)+a1)) a1):Int))
def gd (a0 a1:Int):Prop:=True
def R:=RR (p2 gd) (u2 md)
def an {a0 a1}(h:gd a0 a1):R (a0,a1)=some (md a0 a1):=aP (a:=(a0,a1)) h
def aU:=CN [pI,pI] oI RT.dec R
def bA (a0)(a1)(hg:gd a0 a1):F a0 a1=ret (md a0 a1):=by
 unfold F md
 try simp only [SS]
 refine ct (Z45.an trivial) ?_
 refine av ret (fun _=>rfl) (fun c1=>?_)
 have dc1:=c1
 try simp only [DC] at dc1
 have Dc1:=c1
 try simp [Z45.md] at Dc1
 refine cH df ?_
 refine cH df ?_
 all_goals exact fz
def af:cD 262 aU:=W2 15 F mix aE bA (.cons Z45.af .nil) Tryz.func262
end Z53
namespace Z54
inductive Pt where
 | p0 (a:aB) (b c:Int)
def pid:Pt->Nat
 | .p0 ..=>3
def bY:Pt->List V
 | .p0 a b c=>[.sl none 3 a,.int .i64 b,.int .i64 c]
def bX:Pt->List aV
 | .p0 a b c=>[]
def step (J:Pt->aJ):Pt->aJ
 | .p0 a b c=>(cond (decide (c<(a.length:Int))) (m2 c (a.length:Int) (call (Z53.R ((jt a (toNat c)),2147483647)) fun v1=>J (.p0 a (Int.tmod (i64.wrap ((i64.wrap ((i64.wrap (b*1000003))+v1))+13)) 2147483647) (i64.wrap (c+1))))) (ret (b:Int)))
def start (J:Pt->aJ)(x0:aB):aJ:=J (.p0 x0 11 0)
def live:Nat->Live:=fun i=>match i with | 3=>[(0,none),(3,none),(4,none)] | _=>[]
def md (a0:List Int):Int:=(dQ (S:=Int) (β:=Int) (fun (y1:Int) (s3:Int)=>(.inl (Int.tmod (i64.wrap ((i64.wrap ((i64.wrap (s3*1000003))+(Z53.md y1 2147483647)))+13)) 2147483647))) (fun (s3:Int)=>(s3:Int)) a0 11)
def gd (a0:List Int):Prop:=(bM (2^43) (fun y:Int=>True) a0)
def R:=RR gd md
def an {a0}(h:gd a0):R (a0.map bq)=some (md a0):=aP (a:=a0) h
def aU:=CN [pL 3] oI RT.dec R
def bA (a0)(hg:gd a0):∃n,start (iter step n) (a0.map bq)=ret (md a0):=by
 unfold gd at hg
 have H0:=hg
 unfold start md
 try simp only [SS]
 have Bh2:a0.length<=maxLen:=(by
   have:=(H0).1
   try simp only [maxLen] at *
   omega)
 refine ex_eq (out:=ret) (ep (z:=0)) ?_
 refine dM (p:=Pt.p0 (a0.map bq) 11 0) fz ?_
 refine ck (pt:=fun (i1:Nat) (s3:Int)=>Pt.p0 (a0.map bq) s3 (i1:Int)) (s:=(11:Int)) (out:=ret) (fun _ _=>True) (fun J i1 s3 h2 hih2=>?_) (fun s3 hih2=>?_) trivial
 ·simp only [step,SS]
  have bb_:=Bh2
  simp only [maxLen] at bb_
  have:=(H0).1
  refine bC.yes (by apply decide_eq_true;omega) ?_
  refine bC.yes aI ?_
  refine bC.yes (aK h2) ?_
  refine cr (Z53.an trivial) ?_
  refine bC.inl trivial ?_
  rw [aH h2 Bh2]
  all_goals exact fz
 ·simp only [step,SS]
  have:=(H0).1
  refine dx (by apply decide_eq_false;omega) ?_
  refine ⟨0,?_⟩
  all_goals exact fz
def af:cD 232 aU:=L1 22 pid bY bX live step start mix aE bA (.cons Z53.af .nil) Tryz.func232
end Z54
namespace Z55
def F (x0:bE)(x1:Int):aJ:=(call (Z52.R x0) fun v1=>(cj (eS (((2:Int)+(v1.length:Int))*8)) (call (Z54.R ([[L.int 239],[L.int x1]]++v1)) fun v2=>ret (v2:Int))))
def md (a0:aO)(a1:Int):Int:=((Z54.md ([239,a1]++(Z52.md a0))):Int)
def gd (a0:aO)(a1:Int):Prop:=(aO.Sm (2^21) a0)
def R:=RR (p2 gd) (u2 md)
def an {a0 a1}(h:gd a0 a1):R ((aO.r a0),a1)=some (md a0 a1):=aP (a:=(a0,a1)) h
def aU:=CN [.agg iV,pI] oI RT.dec R
def bA (a0)(a1)(hg:gd a0 a1):F (aO.r a0) a1=ret (md a0 a1):=by
 unfold gd at hg
 have H0:=hg
 unfold F md
 try simp only [SS]
 refine ct (Z52.an H0) ?_
 try simp only [SS]
 refine ak (have:=Z52.len a0;have:=(H0).1;lm) ?_
 refine aZ (Z54.md ([239,a1]++(Z52.md a0))) (rq (Z54.an (a0:=([239,a1]++(Z52.md a0))) ⟨(have:=Z52.len a0;have:=(H0).1;om),fun _ _=>trivial⟩)) ?_
 all_goals exact fz
def af:cD 227 aU:=W2 11 F mix aE bA (.cons Z52.af (.cons Z54.af .nil)) Tryz.func227
end Z55
namespace Z56
def F (x0:cg):aJ:=(call (Z52.R x0.bR) fun v1=>(cj (eS (((8:Int)+(v1.length:Int))*8)) (call (Z52.R x0.bD) fun v2=>(cj (eS (((([[L.int x0.bz],[L.int x0.cI],[L.int x0.bQ],[L.int x0.cF],[L.int x0.cC],[L.int x0.cu],[L.int x0.cW],[L.int x0.dy]]++v1).length:Int)+(v2.length:Int))*8)) (cj (eS ((((([[L.int x0.bz],[L.int x0.cI],[L.int x0.bQ],[L.int x0.cF],[L.int x0.cC],[L.int x0.cu],[L.int x0.cW],[L.int x0.dy]]++v1)++v2).length:Int)+1)*8)) (call (Z52.R x0.bB) fun v3=>(cj (eS (((((([[L.int x0.bz],[L.int x0.cI],[L.int x0.bQ],[L.int x0.cF],[L.int x0.cC],[L.int x0.cu],[L.int x0.cW],[L.int x0.dy]]++v1)++v2)++[[L.int x0.cY]]).length:Int)+(v3.length:Int))*8)) (cond x0.bF (cj (eS ((((((([[L.int x0.bz],[L.int x0.cI],[L.int x0.bQ],[L.int x0.cF],[L.int x0.cC],[L.int x0.cu],[L.int x0.cW],[L.int x0.dy]]++v1)++v2)++[[L.int x0.cY]])++v3).length:Int)+1)*8)) (ret (((((([[L.int x0.bz],[L.int x0.cI],[L.int x0.bQ],[L.int x0.cF],[L.int x0.cC],[L.int x0.cu],[L.int x0.cW],[L.int x0.dy]]++v1)++v2)++[[L.int x0.cY]])++v3)++[[L.int 1]]):aB))) (cj (eS ((((((([[L.int x0.bz],[L.int x0.cI],[L.int x0.bQ],[L.int x0.cF],[L.int x0.cC],[L.int x0.cu],[L.int x0.cW],[L.int x0.dy]]++v1)++v2)++[[L.int x0.cY]])++v3).length:Int)+1)*8)) (ret (((((([[L.int x0.bz],[L.int x0.cI],[L.int x0.bQ],[L.int x0.cF],[L.int x0.cC],[L.int x0.cu],[L.int x0.cW],[L.int x0.dy]]++v1)++v2)++[[L.int x0.cY]])++v3)++[[L.int 0]]):aB)))))))))))
def md (a0:aF):List Int:=(cond a0.bF ((((([a0.bz,a0.cI,a0.bQ,a0.cF,a0.cC,a0.cu,a0.cW,a0.dy]++(Z52.md a0.bR))++(Z52.md a0.bD))++[a0.cY])++(Z52.md a0.bB))++[1]) ((((([a0.bz,a0.cI,a0.bQ,a0.cF,a0.cC,a0.cu,a0.cW,a0.dy]++(Z52.md a0.bR))++(Z52.md a0.bD))++[a0.cY])++(Z52.md a0.bB))++[0]))
def gd (a0:aF):Prop:=(aF.Sm (2^21) a0)
def R:=RR gd md
def an {a0}(h:gd a0):R (aF.r a0)=some ((md a0).map bq):=aP (a:=a0) h
def aU:=CN [.agg fX] (oL 3) RT.dec R
def bA (a0)(hg:gd a0):F (aF.r a0)=ret ((md a0).map bq):=by
 unfold gd at hg
 have H0:=hg
 unfold F md
 try simp only [SS]
 refine ct (Z52.an H0.1) ?_
 try simp only [SS]
 refine ak (have:=Z52.len a0.bR;have:=(H0.1).1;lm) ?_
 refine ct (Z52.an H0.2.1) ?_
 try simp only [SS]
 refine ak (have:=Z52.len a0.bR;have:=(H0.1).1;have:=Z52.len a0.bD;have:=(H0.2.1).1;lm) ?_
 refine ak (have:=Z52.len a0.bR;have:=(H0.1).1;have:=Z52.len a0.bD;have:=(H0.2.1).1;lm) ?_
 refine ct (Z52.an H0.2.2) ?_
 try simp only [SS]
 refine ak (have:=Z52.len a0.bR;have:=(H0.1).1;have:=Z52.len a0.bD;have:=(H0.2.1).1;have:=Z52.len a0.bB;have:=(H0.2.2).1;lm) ?_
 refine av (fun b:List Int=>ret ((b.map bq):aB)) (fun c1=>?_) (fun c1=>?_)
 ·refine ak (have:=Z52.len a0.bR;have:=(H0.1).1;have:=Z52.len a0.bD;have:=(H0.2.1).1;have:=Z52.len a0.bB;have:=(H0.2.2).1;lm) ?_
  all_goals exact fz
 ·refine ak (have:=Z52.len a0.bR;have:=(H0.1).1;have:=Z52.len a0.bD;have:=(H0.2.1).1;have:=Z52.len a0.bB;have:=(H0.2.2).1;lm) ?_
  all_goals exact fz
def af:cD 190 aU:=W1 49 F mix aE bA (.cons Z52.af .nil) Tryz.func190
def len (a0:aF):(md a0).length=16+a0.bR.aX.length+a0.bD.aX.length+a0.bB.aX.length:=by unfold md;cases a0.bF<;>simp [Z52.md]<;>omega
def AB {k l:aO}{x y:List Int}(h:Z52.md k++x=Z52.md l++y):k=l/\x=y:=by
 obtain ⟨kl,kn⟩:=k
 obtain ⟨ll,ln⟩:=l
 simp only [Z52.md,List.cons_append,List.nil_append,List.cons.injEq] at h
 obtain ⟨h1,h2,h3⟩:=h
 obtain ⟨h4,h5⟩:=List.append_inj h3 (by omega)
 exact ⟨by rw [h1,h4],h5⟩
def tB (a:aF):md a=a.bz::a.cI::a.bQ::a.cF::a.cC::a.cu::a.cW::a.dy::(Z52.md a.bR++(Z52.md a.bD++(a.cY::(Z52.md a.bB++[bif a.bF then 1 else 0])))):=by
 unfold md
 cases a.bF<;>simp only [bh,bu,List.append_assoc,List.cons_append,List.nil_append]
def inj {a b:aF}(h:md a=md b):a=b:=by
 rw [tB,tB] at h
 simp only [List.cons.injEq] at h
 obtain ⟨g1,g2,g3,g4,g5,g6,g7,g8,g9⟩:=h
 obtain ⟨k1,g9⟩:=AB g9
 obtain ⟨k2,g9⟩:=AB g9
 simp only [List.cons.injEq] at g9
 obtain ⟨k3,g9⟩:=g9
 obtain ⟨k4,g9⟩:=AB g9
 have k5:a.bF=b.bF:=by
  simp only [List.cons.injEq,and_true] at g9
  revert g9
  cases a.bF<;>cases b.bF<;>simp
 cases a;cases b
 simp only [aF.mk.injEq]
 exact ⟨g1,g2,g3,g4,g5,g6,g7,g8,k1,k2,k3,k4,k5⟩
end Z56
namespace Z57
def F (x0:Int)(x1:aB):aJ:=(cj (eS (((1:Int)+(x1.length:Int))*8)) (cj (eS (((([[L.int x0]]++x1).length:Int)+1)*8)) (call (Z54.R (([[L.int x0]]++x1)++[[L.int x0]])) fun v1=>ret (v1:Int))))
def md (a0:Int)(a1:List Int):Int:=((Z54.md (([a0]++a1)++[a0])):Int)
def gd (a0:Int)(a1:List Int):Prop:=(bM (2^40) (fun y:Int=>True) a1)
def R:=RR (p2 gd) (u2 md)
def an {a0 a1}(h:gd a0 a1):R (a0,(a1.map bq))=some (md a0 a1):=aP (a:=(a0,a1)) h
def aU:=CN [pI,pL 3] oI RT.dec R
def bA (a0)(a1)(hg:gd a0 a1):F a0 (a1.map bq)=ret (md a0 a1):=by
 unfold gd at hg
 have H1:=hg
 unfold F md
 try simp only [SS]
 refine ak (have:=(H1).1;lm) ?_
 refine ak (have:=(H1).1;lm) ?_
 refine aZ (Z54.md (([a0]++a1)++[a0])) (rq (Z54.an (a0:=(([a0]++a1)++[a0])) ⟨(have:=(H1).1;om),fun _ _=>trivial⟩)) ?_
 all_goals exact fz
def af:cD 315 aU:=W2 13 F mix aE bA (.cons Z54.af .nil) Tryz.func315
end Z57
namespace Z58
def F (x0:Int)(x1:aB):aJ:=(cj (eS (((1:Int)+(x1.length:Int))*8)) (call (Z57.R (x0,([[L.int 223]]++x1))) fun v1=>ret (v1:Int)))
def md (a0:Int)(a1:List Int):Int:=((Z57.md a0 ([223]++a1)):Int)
def gd (a0:Int)(a1:List Int):Prop:=(bM (2^39) (fun y:Int=>True) a1)
def R:=RR (p2 gd) (u2 md)
def an {a0 a1}(h:gd a0 a1):R (a0,(a1.map bq))=some (md a0 a1):=aP (a:=(a0,a1)) h
def aU:=CN [pI,pL 3] oI RT.dec R
def bA (a0)(a1)(hg:gd a0 a1):F a0 (a1.map bq)=ret (md a0 a1):=by
 unfold gd at hg
 have H1:=hg
 unfold F md
 try simp only [SS]
 refine ak (have:=(H1).1;lm) ?_
 refine aZ (Z57.md a0 ([223]++a1)) (rq (Z57.an (a0:=a0) (a1:=([223]++a1)) ⟨(have:=(H1).1;om),fun _ _=>trivial⟩)) ?_
 all_goals exact fz
def af:cD 306 aU:=W2 10 F mix aE bA (.cons Z57.af .nil) Tryz.func306
end Z58
namespace Z59
def F (x0:bt)(x1:aB):aJ:=(call (Z45.R (x0.gM,1,99)) fun v1=>(cond v1 (call (Z58.R (x0.gM,x1)) fun v2=>ret ((x0.ju==v2):Bool)) bf))
def md (a0:bt)(a1:List Int):Bool:=(cond (Z45.md a0.gM 1 99) ((a0.ju==(Z58.md a0.gM a1)):Bool) (false:Bool))
def gd (a0:bt)(a1:List Int):Prop:=(bM (2^38) (fun y:Int=>True) a1)
def R:=RR (p2 gd) (u2 md)
def an {a0 a1}(h:gd a0 a1):R (a0,(a1.map bq))=some (md a0 a1):=aP (a:=(a0,a1)) h
def aU:=CN [.agg yC,pL 3] oB RT.dec R
def bA (a0)(a1)(hg:gd a0 a1):F a0 (a1.map bq)=ret (md a0 a1):=by
 unfold gd at hg
 have H1:=hg
 unfold F md
 try simp only [SS]
 refine ct (Z45.an trivial) ?_
 refine av ret (fun c1=>?_) (fun _=>rfl)
 refine ct (Z58.an (H1.mono (by decide) (fun x hx=>trivial))) ?_
 all_goals exact fz
def af:cD 283 aU:=W2 17 F mix aE bA (.cons Z45.af (.cons Z58.af .nil)) Tryz.func283
end Z59
namespace Z60
inductive Pt where
 | p0 (a b:aB) (c d:Int) (e:bE)
 | p1 (a b:aB) (c d e:Int) (f:bE)
def pid:Pt->Nat
 | .p0 ..=>3
 | .p1 ..=>6
def bY:Pt->List V
 | .p0 a b c d e=>[.sl none 3 a,.sl none 190 b,.cN 0 0,.int .i64 c,.int .i64 d]
 | .p1 a b c d e f=>[.sl none 3 a,.sl none 190 b,.cN 0 0,.int .i64 c,.int .i64 d,.int .i64 e]
def bX:Pt->List aV
 | .p0 a b c d e=>[.box [.sl none 3 e.aX,.int .i64 e.cE]]
 | .p1 a b c d e f=>[.box [.sl none 3 f.aX,.int .i64 f.cE]]
def step (J:Pt->aJ):Pt->aJ
 | .p0 a b c d e=>(cond (decide (d<(e.aX.length:Int))) (J (.p1 a b c d 0 e)) (ret (c:Int)))
 | .p1 a b c d e f=>(cond (decide (e<(b.length:Int))) (m2 e (b.length:Int) (m2 d (f.aX.length:Int) (cond ((bt.at b (toNat e)).gM==(jt f.aX (toNat d))) (m2 e (b.length:Int) (call (Z59.R ((bt.at b (toNat e)),a)) fun v1=>(cond v1 (J (.p0 a b (i64.wrap (c+1)) (i64.wrap (d+1)) f)) (J (.p1 a b c d (i64.wrap (e+1)) f))))) (J (.p1 a b c d (i64.wrap (e+1)) f))))) (J (.p0 a b c (i64.wrap (d+1)) f)))
def start (J:Pt->aJ)(x0:bE)(x1 x2:aB):aJ:=J (.p0 x1 x2 0 0 x0)
def live:Nat->Live:=fun i=>match i with | 3=>[(1,none),(2,none),(3,none),(7,none),(8,none)] | 6=>[(1,none),(2,none),(3,none),(7,none),(8,none),(9,none)] | _=>[]
def md (a0:aO)(a1:List Int)(a2:List bt):Int:=(dQ (S:=Int) (β:=Int) (fun (y1:Int) (s3:Int)=>(dQ (S:=Unit) (β:=(Int⊕Int)) (fun (y5:bt) (s7:Unit)=>(cond (y5.gM==y1) (cond (Z59.md y5 a1) (.inr (.inl (i64.wrap (s3+1)))) (.inl ())) (.inl ()))) (fun (s7:Unit)=>(.inl s3)) a2 ())) (fun (s3:Int)=>(s3:Int)) a0.aX 0)
def gd (a0:aO)(a1:List Int)(a2:List bt):Prop:=(aO.Sm (2^21) a0)/\(bM (2^38) (fun y:Int=>True) a1)/\(bM (2^21) (fun y:bt=>bt.Sm (2^21) y) a2)
def R:=RR (p3 gd) (u3 md)
def an {a0 a1 a2}(h:gd a0 a1 a2):R ((aO.r a0),(a1.map bq),(a2.map bt.row))=some (md a0 a1 a2):=aP (a:=(a0,a1,a2)) h
def aU:=CN [.agg iV,pL 3,pL 190] oI RT.dec R
def bA (a0)(a1)(a2)(hg:gd a0 a1 a2):∃n,start (iter step n) (aO.r a0) (a1.map bq) (a2.map bt.row)=ret (md a0 a1 a2):=by
 obtain ⟨H0,H1,H2⟩:=hg
 unfold start md
 try simp only [SS]
 have Bh2:a0.aX.length<=maxLen:=(by
   have:=(H0).1
   try simp only [maxLen] at *
   omega)
 refine ex_eq (out:=ret) (ep (z:=0)) ?_
 refine dM (p:=Pt.p0 (a1.map bq) (a2.map bt.row) 0 0 (aO.r a0)) fz ?_
 refine uw (pt:=fun (i1:Nat) (s3:Int)=>Pt.p0 (a1.map bq) (a2.map bt.row) s3 (i1:Int) (aO.r a0)) (s:=(0:Int)) (out:=ret) (fun _ _=>True) (fun i1 s3 h2 hih2 K4 hK4 rK4=>?_) (fun s3 hih2=>?_) trivial
 ·simp only [step,SS]
  have bb_:=Bh2
  simp only [maxLen] at bb_
  have:=(H0).1
  refine dF (by apply decide_eq_true;omega) ?_
  have Bh6:a2.length<=maxLen:=(by
    have:=(H2).1
    try simp only [maxLen] at *
    omega)
  refine ex_eq (out:=K4) (ep (z:=bt.zero)) ?_
  refine dM (p:=Pt.p1 (a1.map bq) (a2.map bt.row) s3 (i1:Int) 0 (aO.r a0)) fz ?_
  refine uw (pt:=fun (i5:Nat) (s7:Unit)=>Pt.p1 (a1.map bq) (a2.map bt.row) s3 (i1:Int) (i5:Int) (aO.r a0)) (s:=(():Unit)) (out:=K4) (fun _ _=>True) (fun i5 s7 h6 hih6 K8 hK8 rK8=>?_) (fun s7 hih6=>?_) trivial
  ·simp only [step,SS]
   have bb_:=Bh6
   simp only [maxLen] at bb_
   have:=(H2).1
   refine dF (by apply decide_eq_true;omega) ?_
   refine dF aI ?_
   refine dF (aK h6) ?_
   refine dF dt ?_
   refine dF (have:=(H0).1;dt) ?_
   refine gR K8 (fun c9=>?_) (fun c9=>?_)
   ·refine dF aI ?_
    refine dF (aK h6) ?_
    refine cx (Z59.an H1) ?_
    refine gR K8 (fun c10=>?_) (fun c10=>?_)
    ·rw [rK8]
     rw [aH h2 Bh2]
     first | exact hK4 _ trivial | (simp only [SS];exact hK4 _ trivial) | (simp only [MP];exact hK4 _ trivial)
    ·rw [aH h6 Bh6]
     first | exact hK8 _ trivial | (simp only [SS];exact hK8 _ trivial) | (simp only [MP];exact hK8 _ trivial)
   ·rw [aH h6 Bh6]
    first | exact hK8 _ trivial | (simp only [SS];exact hK8 _ trivial) | (simp only [MP];exact hK8 _ trivial)
  ·simp only [step,SS]
   have:=(H2).1
   refine dx (by apply decide_eq_false;omega) ?_
   rw [aH h2 Bh2]
   first | exact hK4 _ trivial | (simp only [SS];exact hK4 _ trivial) | (simp only [MP];exact hK4 _ trivial)
 ·simp only [step,SS]
  have:=(H0).1
  refine dx (by apply decide_eq_false;omega) ?_
  refine ⟨0,?_⟩
  all_goals exact fz
def af:cD 257 aU:=L3 45 pid bY bX live step start mix aE bA (.cons Z59.af .nil) Tryz.func257
end Z60
namespace Z61
def F (x0:bE)(x1 x2:aB):aJ:=(call (Z49.R x0) fun v1=>(cond v1 (call (Z60.R (x0,x1,x2)) fun v2=>ret ((decide (v2>=x0.cE)):Bool)) bf))
def md (a0:aO)(a1:List Int)(a2:List bt):Bool:=(cond (Z49.md a0) ((decide ((Z60.md a0 a1 a2)>=a0.cE)):Bool) (false:Bool))
def gd (a0:aO)(a1:List Int)(a2:List bt):Prop:=(aO.Sm (2^21) a0)/\(bM (2^38) (fun y:Int=>True) a1)/\(bM (2^21) (fun y:bt=>bt.Sm (2^21) y) a2)
def R:=RR (p3 gd) (u3 md)
def an {a0 a1 a2}(h:gd a0 a1 a2):R ((aO.r a0),(a1.map bq),(a2.map bt.row))=some (md a0 a1 a2):=aP (a:=(a0,a1,a2)) h
def aU:=CN [.agg iV,pL 3,pL 190] oB RT.dec R
def bA (a0)(a1)(a2)(hg:gd a0 a1 a2):F (aO.r a0) (a1.map bq) (a2.map bt.row)=ret (md a0 a1 a2):=by
 obtain ⟨H0,H1,H2⟩:=hg
 unfold F md
 try simp only [SS]
 refine ct (Z49.an H0) ?_
 refine av ret (fun c1=>?_) (fun _=>rfl)
 refine ct (Z60.an ⟨H0,H1,H2⟩) ?_
 all_goals exact fz
def af:cD 228 aU:=W3 18 F mix aE bA (.cons Z49.af (.cons Z60.af .nil)) Tryz.func228
end Z61
namespace Z62
def F (x0:aR):aJ:=(call (Z51.R x0.aq) fun v1=>(cond v1 (cond (x0.aq.cI==0) (cond (x0.aq.bQ==1) (cond (!x0.aq.bF) (call (Z55.R (x0.aq.bR,x0.aq.dy)) fun v2=>(cond (x0.aq.bz==v2) (call (Z56.R x0.aq) fun v3=>(call (Z61.R (x0.aq.bR,v3,x0.cm)) fun v4=>ret (v4:Bool))) bf)) bf) bf) bf) bf))
def md (a0:aa):Bool:=(cond (Z51.md a0.aq) (cond (a0.aq.cI==0) (cond (a0.aq.bQ==1) (cond (!a0.aq.bF) (cond (a0.aq.bz==(Z55.md a0.aq.bR a0.aq.dy)) ((Z61.md a0.aq.bR (Z56.md a0.aq) a0.cm):Bool) (false:Bool)) (false:Bool)) (false:Bool)) (false:Bool)) (false:Bool))
def gd (a0:aa):Prop:=(aa.Sm (2^21) a0)
def R:=RR gd md
def an {a0}(h:gd a0):R (aa.r a0)=some (md a0):=aP (a:=a0) h
def aU:=CN [.agg ku] oB RT.dec R
def bA (a0)(hg:gd a0):F (aa.r a0)=ret (md a0):=by
 unfold gd at hg
 have H0:=hg
 unfold F md
 try simp only [SS]
 refine ct (Z51.an H0.1) ?_
 refine av ret (fun c1=>?_) (fun _=>rfl)
 try have tc1:=Z51.tr (by simpa using c1)
 refine av ret (fun c2=>?_) (fun _=>rfl)
 have dc2:=c2
 try simp only [DC] at dc2
 refine av ret (fun c3=>?_) (fun _=>rfl)
 have dc3:=c3
 try simp only [DC] at dc3
 refine av ret (fun c4=>?_) (fun _=>rfl)
 have dc4:=c4
 try simp only [DC] at dc4
 refine ct (Z55.an H0.1.1) ?_
 refine av ret (fun c5=>?_) (fun _=>rfl)
 have dc5:=c5
 try simp only [DC] at dc5
 refine ct (Z56.an H0.1) ?_
 try simp only [SS]
 refine ct (Z61.an ⟨H0.1.1,⟨(have:=Z56.len a0.aq;have:=(H0.1.1).1;have:=(H0.1.2.1).1;have:=(H0.1.2.2).1;om),fun _ _=>trivial⟩,H0.2⟩) ?_
 all_goals exact fz
def af:cD 187 aU:=W1 42 F mix aE bA (.cons Z51.af (.cons Z55.af (.cons Z56.af (.cons Z61.af .nil)))) Tryz.func187
end Z62
namespace Z63
def F (x0:cg):aJ:=(call (Z56.R x0) fun v1=>(cj (eS (((1:Int)+(v1.length:Int))*8)) (call (Z54.R ([[L.int 233]]++v1)) fun v2=>ret (v2:Int))))
def md (a0:aF):Int:=((Z54.md ([233]++(Z56.md a0))):Int)
def gd (a0:aF):Prop:=(aF.Sm (2^21) a0)
def R:=RR gd md
def an {a0}(h:gd a0):R (aF.r a0)=some (md a0):=aP (a:=a0) h
def aU:=CN [.agg fX] oI RT.dec R
def bA (a0)(hg:gd a0):F (aF.r a0)=ret (md a0):=by
 unfold gd at hg
 have H0:=hg
 unfold F md
 try simp only [SS]
 refine ct (Z56.an H0) ?_
 try simp only [SS]
 refine ak (have:=Z56.len a0;have:=(H0.1).1;have:=(H0.2.1).1;have:=(H0.2.2).1;lm) ?_
 refine aZ (Z54.md ([233]++(Z56.md a0))) (rq (Z54.an (a0:=([233]++(Z56.md a0))) ⟨(have:=Z56.len a0;have:=(H0.1).1;have:=(H0.2.1).1;have:=(H0.2.2).1;om),fun _ _=>trivial⟩)) ?_
 all_goals exact fz
def af:cD 258 aU:=W1 8 F mix aE bA (.cons Z56.af (.cons Z54.af .nil)) Tryz.func258
end Z63
namespace Z64
def F (x0 x1:cg):aJ:=(cond x0.bF (ret (4:Int)) (cond x1.bF (ret (6:Int)) (ret (1:Int))))
def md (a0 a1:aF):Int:=(cond a0.bF (4:Int) (cond a1.bF (6:Int) (1:Int)))
def gd (a0 a1:aF):Prop:=True
def R:=RR (p2 gd) (u2 md)
def an {a0 a1}(h:gd a0 a1):R ((aF.r a0),(aF.r a1))=some (md a0 a1):=aP (a:=(a0,a1)) h
def aU:=CN [.agg fX,.agg fX] oI RT.dec R
def bA (a0)(a1)(hg:gd a0 a1):F (aF.r a0) (aF.r a1)=ret (md a0 a1):=by
 unfold F md
 try simp only [SS]
 refine av ret (fun _=>rfl) (fun c1=>?_)
 refine av ret (fun _=>rfl) (fun _=>rfl)
def af:cD 259 aU:=W2 11 F mix aE bA .nil Tryz.func259
end Z64
namespace Z65
inductive Pt where
 | p0 (a b:aB) (c:Int)
def pid:Pt->Nat
 | .p0 ..=>4
def bY:Pt->List V
 | .p0 a b c=>[.sl none 3 a,.sl none 3 b,.int .i64 c]
def bX:Pt->List aV
 | .p0 a b c=>[]
def step (J:Pt->aJ):Pt->aJ
 | .p0 a b c=>(cond (decide (c<(a.length:Int))) (m2 c (a.length:Int) (m2 c (b.length:Int) (cond ((jt a (toNat c)) != (jt b (toNat c))) bf (J (.p0 a b (i64.wrap (c+1))))))) eu)
def start (J:Pt->aJ)(x0 x1:aB):aJ:=(cond ((x0.length:Int) != (x1.length:Int)) bf (J (.p0 x0 x1 0)))
def live:Nat->Live:=fun i=>match i with | 4=>[(0,none),(1,none),(5,none)] | _=>[]
def md (a0 a1:List Int):Bool:=(bif ((a0.length:Int) != (a1.length:Int)) then (false:Bool) else (eo (S:=Unit) (β:=Bool) (fun (i2:Nat) (s4:Unit)=>(cond ((a0.getD i2 0) != (a1.getD i2 0)) (.inr (false:Bool)) (.inl ()))) (fun (s4:Unit)=>(true:Bool)) a0.length 0 ()))
def gd (a0 a1:List Int):Prop:=(bM (2^38) (fun y:Int=>True) a0)/\(bM (2^38) (fun y:Int=>True) a1)
def R:=RR (p2 gd) (u2 md)
def an {a0 a1}(h:gd a0 a1):R ((a0.map bq),(a1.map bq))=some (md a0 a1):=aP (a:=(a0,a1)) h
def aU:=CN [pL 3,pL 3] oB RT.dec R
def bA (a0)(a1)(hg:gd a0 a1):∃n,start (iter step n) (a0.map bq) (a1.map bq)=ret (md a0 a1):=by
 obtain ⟨H0,H1⟩:=hg
 unfold start md
 try simp only [SS]
 refine gR ret (fun _=>⟨0,rfl⟩) (fun c1=>?_)
 have dc1:=c1
 try simp only [DC] at dc1
 have Bh3:a0.length<=maxLen:=(by
   have:=(H0).1
   try simp only [maxLen] at *
   omega)
 refine dM (p:=Pt.p0 (a0.map bq) (a1.map bq) 0) fz ?_
 refine ck (pt:=fun (i2:Nat) (s4:Unit)=>Pt.p0 (a0.map bq) (a1.map bq) (i2:Int)) (s:=(():Unit)) (out:=ret) (fun _ _=>True) (fun J i2 s4 h3 hih3=>?_) (fun s4 hih3=>?_) trivial
 ·simp only [step,SS]
  have bb_:=Bh3
  simp only [maxLen] at bb_
  have:=(H0).1
  refine bC.yes (by apply decide_eq_true;omega) ?_
  refine bC.yes aI ?_
  refine bC.yes (aK h3) ?_
  refine bC.yes aI ?_
  refine bC.yes (have:=(H1).1;dt) ?_
  refine bC.bif (fun _=>bC.inr rfl) (fun c5=>?_)
  refine bC.inl trivial ?_
  rw [aH h3 Bh3]
  all_goals exact fz
 ·simp only [step,SS]
  have:=(H0).1
  refine dx (by apply decide_eq_false;omega) ?_
  refine ⟨0,?_⟩
  all_goals exact fz
def af:cD 189 aU:=L2 26 pid bY bX live step start mix aE bA .nil Tryz.func189
def md_eq (a0 a1:List Int):md a0 a1=dY a0 a1:=by
 unfold md
 refine ke (0) (fun i s h h2=>?_) (fun s=>rfl)
 simp only [bne,fc,bool_beq,eO]
 cases dY _ _<;>rfl
end Z65
namespace Z66
def F (x0 x1:bE):aJ:=(cond (x0.cE==x1.cE) (call (Z65.R (x0.aX,x1.aX)) fun v1=>ret (v1:Bool)) bf)
def md (a0 a1:aO):Bool:=(cond (a0.cE==a1.cE) ((Z65.md a0.aX a1.aX):Bool) (false:Bool))
def gd (a0 a1:aO):Prop:=(aO.Sm (2^21) a0)/\(aO.Sm (2^21) a1)
def R:=RR (p2 gd) (u2 md)
def an {a0 a1}(h:gd a0 a1):R ((aO.r a0),(aO.r a1))=some (md a0 a1):=aP (a:=(a0,a1)) h
def aU:=CN [.agg iV,.agg iV] oB RT.dec R
def bA (a0)(a1)(hg:gd a0 a1):F (aO.r a0) (aO.r a1)=ret (md a0 a1):=by
 obtain ⟨H0,H1⟩:=hg
 unfold F md
 try simp only [SS]
 refine av ret (fun c1=>?_) (fun _=>rfl)
 refine ct (Z65.an ⟨(H0.mono (by decide) (fun x hx=>trivial)),(H1.mono (by decide) (fun x hx=>trivial))⟩) ?_
 all_goals exact fz
def af:cD 284 aU:=W2 17 F mix aE bA (.cons Z65.af .nil) Tryz.func284
def md_eq (a0 a1:aO):md a0 a1=dY a0 a1:=by
 unfold md
 cases a0;cases a1
 rw [Bool.eq_iff_iff]
 simp [dh,eO,aO.mk.injEq,Z65.md_eq]
 try (constructor<;>(intro h;simp_all))
end Z66
namespace Z67
def F (x0 x1:cg):aJ:=(cond (x0.cu==x1.cu) (ret ((x0.cW==x1.cW):Bool)) bf)
def md (a0 a1:aF):Bool:=(cond (a0.cu==a1.cu) ((a0.cW==a1.cW):Bool) (false:Bool))
def gd (a0 a1:aF):Prop:=True
def R:=RR (p2 gd) (u2 md)
def an {a0 a1}(h:gd a0 a1):R ((aF.r a0),(aF.r a1))=some (md a0 a1):=aP (a:=(a0,a1)) h
def aU:=CN [.agg fX,.agg fX] oB RT.dec R
def bA (a0)(a1)(hg:gd a0 a1):F (aF.r a0) (aF.r a1)=ret (md a0 a1):=by
 unfold F md
 try simp only [SS]
 refine av ret (fun c1=>?_) (fun _=>rfl)
 all_goals exact fz
def af:cD 285 aU:=W2 17 F mix aE bA .nil Tryz.func285
end Z67
namespace Z68
def F (x0 x1:cg):aJ:=(cond x0.bF (ret (4:Int)) (call (Z50.R x0.bD) fun v1=>(cond v1 (ret (5:Int)) (cond (decide (x1.cF<(i64.wrap (x0.cC+x0.cY)))) (ret (5:Int)) (cond x1.bF (ret (6:Int)) (call (Z66.R (x1.bR,x0.bD)) fun v2=>(cond (!v2) (ret (6:Int)) (call (Z67.R (x1,x0)) fun v3=>(cond (!v3) (ret (6:Int)) (ret (1:Int)))))))))))
def md (a0 a1:aF):Int:=(cond a0.bF (4:Int) (cond (Z50.md a0.bD) (5:Int) (cond (decide (a1.cF<(i64.wrap (a0.cC+a0.cY)))) (5:Int) (cond a1.bF (6:Int) (cond (!(Z66.md a1.bR a0.bD)) (6:Int) (cond (!(Z67.md a1 a0)) (6:Int) (1:Int)))))))
def gd (a0 a1:aF):Prop:=(aF.Sm (2^21) a0)/\(aF.Sm (2^21) a1)
def R:=RR (p2 gd) (u2 md)
def an {a0 a1}(h:gd a0 a1):R ((aF.r a0),(aF.r a1))=some (md a0 a1):=aP (a:=(a0,a1)) h
def aU:=CN [.agg fX,.agg fX] oI RT.dec R
def bA (a0)(a1)(hg:gd a0 a1):F (aF.r a0) (aF.r a1)=ret (md a0 a1):=by
 obtain ⟨H0,H1⟩:=hg
 unfold F md
 try simp only [SS]
 refine av ret (fun _=>rfl) (fun c1=>?_)
 refine ct (Z50.an trivial) ?_
 refine av ret (fun _=>rfl) (fun c2=>?_)
 refine av ret (fun _=>rfl) (fun c3=>?_)
 refine av ret (fun _=>rfl) (fun c4=>?_)
 refine ct (Z66.an ⟨H1.1,H0.2.1⟩) ?_
 refine av ret (fun _=>rfl) (fun c5=>?_)
 refine ct (Z67.an trivial) ?_
 refine av ret (fun _=>rfl) (fun _=>rfl)
def af:cD 260 aU:=W2 39 F mix aE bA (.cons Z50.af (.cons Z66.af (.cons Z67.af .nil))) Tryz.func260
end Z68
namespace Z69
def F (x0 x1:cg):aJ:=(call (Z50.R x0.bB) fun v1=>(cond v1 (ret (5:Int)) (cond (x1.bF==x0.bF) (ret (6:Int)) (call (Z67.R (x1,x0)) fun v2=>(cond (!v2) (ret (6:Int)) (call (Z66.R (x1.bB,x0.bB)) fun v3=>(cond (!v3) (ret (6:Int)) (call (Z66.R (x1.bD,x0.bD)) fun v4=>(cond (!v4) (ret (6:Int)) (cond (x1.cY != x0.cY) (ret (6:Int)) (cond x1.bF (call (Z66.R (x1.bR,x0.bR)) fun v5=>(cond (!v5) (ret (6:Int)) (ret (1:Int)))) (ret (1:Int)))))))))))))
def md (a0 a1:aF):Int:=(cond (Z50.md a0.bB) (5:Int) (cond (a1.bF==a0.bF) (6:Int) (cond (!(Z67.md a1 a0)) (6:Int) (cond (!(Z66.md a1.bB a0.bB)) (6:Int) (cond (!(Z66.md a1.bD a0.bD)) (6:Int) (cond (a1.cY != a0.cY) (6:Int) (cond a1.bF (cond (!(Z66.md a1.bR a0.bR)) (6:Int) (1:Int)) (1:Int))))))))
def gd (a0 a1:aF):Prop:=(aF.Sm (2^21) a0)/\(aF.Sm (2^21) a1)
def R:=RR (p2 gd) (u2 md)
def an {a0 a1}(h:gd a0 a1):R ((aF.r a0),(aF.r a1))=some (md a0 a1):=aP (a:=(a0,a1)) h
def aU:=CN [.agg fX,.agg fX] oI RT.dec R
def bA (a0)(a1)(hg:gd a0 a1):F (aF.r a0) (aF.r a1)=ret (md a0 a1):=by
 obtain ⟨H0,H1⟩:=hg
 unfold F md
 try simp only [SS]
 refine ct (Z50.an trivial) ?_
 refine av ret (fun _=>rfl) (fun c1=>?_)
 refine av ret (fun _=>rfl) (fun c2=>?_)
 refine ct (Z67.an trivial) ?_
 refine av ret (fun _=>rfl) (fun c3=>?_)
 refine ct (Z66.an ⟨H1.2.2,H0.2.2⟩) ?_
 refine av ret (fun _=>rfl) (fun c4=>?_)
 refine ct (Z66.an ⟨H1.2.1,H0.2.1⟩) ?_
 refine av ret (fun _=>rfl) (fun c5=>?_)
 refine av ret (fun _=>rfl) (fun c6=>?_)
 refine av ret (fun c7=>?_) (fun _=>rfl)
 refine ct (Z66.an ⟨H1.1,H0.1⟩) ?_
 refine av ret (fun _=>rfl) (fun _=>rfl)
def af:cD 261 aU:=W2 55 F mix aE bA (.cons Z50.af (.cons Z67.af (.cons Z66.af .nil))) Tryz.func261
end Z69
namespace Z70
def F (x0:cg)(x1:aR):aJ:=(call (Z51.R x0) fun v1=>(cond (!v1) (ret (2:Int)) (call (Z51.R x1.aq) fun v2=>(cond (!v2) (ret (2:Int)) (cond (x1.aq.bz != x0.bz) (ret (3:Int)) (cond (x1.aq.cI != (i64.wrap (x0.cI+1))) (ret (3:Int)) (call (Z63.R x0) fun v3=>(cond (x1.aq.dy != v3) (ret (3:Int)) (cond (decide (x1.aq.cF<x0.cF)) (ret (3:Int)) (call (Z64.R (x0,x1.aq)) fun v4=>(cond (x1.aq.bQ==2) (call (Z68.R (x0,x1.aq)) fun v5=>(cond (v5==1) (call (Z56.R x1.aq) fun v6=>(call (Z61.R (x0.bD,v6,x1.cm)) fun v7=>(cond (!v7) (ret (7:Int)) (ret (v5:Int))))) (ret (v5:Int)))) (cond (x1.aq.bQ==3) (call (Z69.R (x0,x1.aq)) fun v8=>(cond (v8==1) (call (Z56.R x1.aq) fun v9=>(call (Z61.R (x0.bB,v9,x1.cm)) fun v10=>(cond (!v10) (ret (7:Int)) (ret (v8:Int))))) (ret (v8:Int)))) (cond (v4==1) (call (Z56.R x1.aq) fun v11=>(call (Z61.R (x0.bR,v11,x1.cm)) fun v12=>(cond (!v12) (ret (7:Int)) (ret (v4:Int))))) (ret (v4:Int)))))))))))))))
def md (a0:aF)(a1:aa):Int:=(cond (!(Z51.md a0)) (2:Int) (cond (!(Z51.md a1.aq)) (2:Int) (cond (a1.aq.bz != a0.bz) (3:Int) (cond (a1.aq.cI != (i64.wrap (a0.cI+1))) (3:Int) (cond (a1.aq.dy != (Z63.md a0)) (3:Int) (cond (decide (a1.aq.cF<a0.cF)) (3:Int) (cond (a1.aq.bQ==2) (cond ((Z68.md a0 a1.aq)==1) (cond (!(Z61.md a0.bD (Z56.md a1.aq) a1.cm)) (7:Int) ((Z68.md a0 a1.aq):Int)) ((Z68.md a0 a1.aq):Int)) (cond (a1.aq.bQ==3) (cond ((Z69.md a0 a1.aq)==1) (cond (!(Z61.md a0.bB (Z56.md a1.aq) a1.cm)) (7:Int) ((Z69.md a0 a1.aq):Int)) ((Z69.md a0 a1.aq):Int)) (cond ((Z64.md a0 a1.aq)==1) (cond (!(Z61.md a0.bR (Z56.md a1.aq) a1.cm)) (7:Int) ((Z64.md a0 a1.aq):Int)) ((Z64.md a0 a1.aq):Int))))))))))
def gd (a0:aF)(a1:aa):Prop:=(aF.Sm (2^21) a0)/\(aa.Sm (2^21) a1)
def R:=RR (p2 gd) (u2 md)
def an {a0 a1}(h:gd a0 a1):R ((aF.r a0),(aa.r a1))=some (md a0 a1):=aP (a:=(a0,a1)) h
def aU:=CN [.agg fX,.agg ku] oI RT.dec R
def bA (a0)(a1)(hg:gd a0 a1):F (aF.r a0) (aa.r a1)=ret (md a0 a1):=by
 obtain ⟨H0,H1⟩:=hg
 unfold F md
 try simp only [SS]
 refine ct (Z51.an H0) ?_
 refine av ret (fun _=>rfl) (fun c1=>?_)
 have dc1:=c1
 try simp only [DC] at dc1
 try have tc1:=Z51.tr (by simpa using c1)
 refine ct (Z51.an H1.1) ?_
 refine av ret (fun _=>rfl) (fun c2=>?_)
 have dc2:=c2
 try simp only [DC] at dc2
 try have tc2:=Z51.tr (by simpa using c2)
 refine av ret (fun _=>rfl) (fun c3=>?_)
 have dc3:=c3
 try simp only [DC] at dc3
 refine av ret (fun _=>rfl) (fun c4=>?_)
 have dc4:=c4
 try simp only [DC] at dc4
 refine ct (Z63.an H0) ?_
 refine av ret (fun _=>rfl) (fun c5=>?_)
 have dc5:=c5
 try simp only [DC] at dc5
 refine av ret (fun _=>rfl) (fun c6=>?_)
 have dc6:=c6
 try simp only [DC] at dc6
 refine ct (Z64.an trivial) ?_
 refine av ret (fun c7=>?_) (fun c7=>?_)
 ·have dc7:=c7
  try simp only [DC] at dc7
  refine ct (Z68.an ⟨H0,H1.1⟩) ?_
  refine av ret (fun c8=>?_) (fun c8=>?_)
  ·have dc8:=c8
   try simp only [DC] at dc8
   refine ct (Z56.an H1.1) ?_
   try simp only [SS]
   refine ct (Z61.an ⟨H0.2.1,⟨(have:=Z56.len a1.aq;have:=(H1.1.1).1;have:=(H1.1.2.1).1;have:=(H1.1.2.2).1;om),fun _ _=>trivial⟩,H1.2⟩) ?_
   refine av ret (fun _=>rfl) (fun c9=>?_)
   all_goals exact fz
  ·all_goals exact fz
 ·have dc7:=c7
  try simp only [DC] at dc7
  refine av ret (fun c10=>?_) (fun c10=>?_)
  ·have dc10:=c10
   try simp only [DC] at dc10
   refine ct (Z69.an ⟨H0,H1.1⟩) ?_
   refine av ret (fun c11=>?_) (fun c11=>?_)
   ·have dc11:=c11
    try simp only [DC] at dc11
    refine ct (Z56.an H1.1) ?_
    try simp only [SS]
    refine ct (Z61.an ⟨H0.2.2,⟨(have:=Z56.len a1.aq;have:=(H1.1.1).1;have:=(H1.1.2.1).1;have:=(H1.1.2.2).1;om),fun _ _=>trivial⟩,H1.2⟩) ?_
    refine av ret (fun _=>rfl) (fun c12=>?_)
    all_goals exact fz
   ·all_goals exact fz
  ·have dc10:=c10
   try simp only [DC] at dc10
   refine av ret (fun c13=>?_) (fun c13=>?_)
   ·have dc13:=c13
    try simp only [DC] at dc13
    refine ct (Z56.an H1.1) ?_
    try simp only [SS]
    refine ct (Z61.an ⟨H0.1,⟨(have:=Z56.len a1.aq;have:=(H1.1.1).1;have:=(H1.1.2.1).1;have:=(H1.1.2.2).1;om),fun _ _=>trivial⟩,H1.2⟩) ?_
    refine av ret (fun _=>rfl) (fun c14=>?_)
    all_goals exact fz
   ·all_goals exact fz
def af:cD 229 aU:=W2 78 F mix aE bA (.cons Z51.af (.cons Z63.af (.cons Z64.af (.cons Z68.af (.cons Z56.af (.cons Z61.af (.cons Z69.af .nil))))))) Tryz.func229
end Z70
namespace Z71
def F (x0:cg)(x1:aR):aJ:=(call (Z70.R (x0,x1)) fun v1=>ret ((v1==1):Bool))
def md (a0:aF)(a1:aa):Bool:=(((Z70.md a0 a1)==1):Bool)
def gd (a0:aF)(a1:aa):Prop:=(aF.Sm (2^21) a0)/\(aa.Sm (2^21) a1)
def R:=RR (p2 gd) (u2 md)
def an {a0 a1}(h:gd a0 a1):R ((aF.r a0),(aa.r a1))=some (md a0 a1):=aP (a:=(a0,a1)) h
def aU:=CN [.agg fX,.agg ku] oB RT.dec R
def bA (a0)(a1)(hg:gd a0 a1):F (aF.r a0) (aa.r a1)=ret (md a0 a1):=by
 obtain ⟨H0,H1⟩:=hg
 unfold F md
 try simp only [SS]
 refine ct (Z70.an ⟨H0,H1⟩) ?_
 all_goals exact fz
def af:cD 188 aU:=W2 9 F mix aE bA (.cons Z70.af .nil) Tryz.func188
end Z71
namespace Z72
inductive Pt where
 | p0 (a:aB) (b:Int)
def pid:Pt->Nat
 | .p0 ..=>2
def bY:Pt->List V
 | .p0 a b=>[.sl none 141 a,.int .i64 b]
def bX:Pt->List aV
 | .p0 a b=>[]
def step (J:Pt->aJ):Pt->aJ
 | .p0 a b=>(cond (decide (b<(a.length:Int))) (cond (b==0) (cj (decide ((0:Int)<(a.length:Int))) (call (Z62.R (aR.at a 0)) fun v1=>(cond (!v1) (ret (b:Int)) (cond (decide (b>0)) (cj (decide ((0:Int)<=(i64.wrap (b - 1)))) (cj (decide ((i64.wrap (b - 1))<(a.length:Int))) (m2 b (a.length:Int) (call (Z71.R ((aR.at a (toNat (i64.wrap (b - 1)))).aq,(aR.at a (toNat b)))) fun v2=>(cond (!v2) (ret (b:Int)) (J (.p0 a (i64.wrap (b+1))))))))) (J (.p0 a (i64.wrap (b+1)))))))) (cond (decide (b>0)) (cj (decide ((0:Int)<=(i64.wrap (b - 1)))) (cj (decide ((i64.wrap (b - 1))<(a.length:Int))) (m2 b (a.length:Int) (call (Z71.R ((aR.at a (toNat (i64.wrap (b - 1)))).aq,(aR.at a (toNat b)))) fun v3=>(cond (!v3) (ret (b:Int)) (J (.p0 a (i64.wrap (b+1))))))))) (J (.p0 a (i64.wrap (b+1)))))) (ret ((-1):Int)))
def start (J:Pt->aJ)(x0:aB):aJ:=J (.p0 x0 0)
def live:Nat->Live:=fun i=>match i with | 2=>[(0,none),(3,none)] | _=>[]
def md (a0:List aa):Int:=(dD (S:=Unit) (β:=Int) (fun (i1:Nat) (y1:aa) (s3:Unit)=>(cond ((i1:Int)==0) (cond (!(Z62.md (a0.getD 0 aa.zero))) (.inr ((i1:Int):Int)) (cond (decide ((i1:Int)>0)) (cond (!(Z71.md ((a0.getD (toNat (i64.wrap ((i1:Int) - 1))) aa.zero).aq) y1)) (.inr ((i1:Int):Int)) (.inl ())) (.inl ()))) (cond (decide ((i1:Int)>0)) (cond (!(Z71.md ((a0.getD (toNat (i64.wrap ((i1:Int) - 1))) aa.zero).aq) y1)) (.inr ((i1:Int):Int)) (.inl ())) (.inl ())))) (fun (s3:Unit)=>((-1):Int)) 0 a0 ())
def gd (a0:List aa):Prop:=(bM (2^21) (fun y:aa=>aa.Sm (2^21) y) a0)
def R:=RR gd md
def an {a0}(h:gd a0):R (a0.map aa.row)=some (md a0):=aP (a:=a0) h
def aU:=CN [pL 141] oI RT.dec R
def bA (a0)(hg:gd a0):∃n,start (iter step n) (a0.map aa.row)=ret (md a0):=by
 unfold gd at hg
 have H0:=hg
 unfold start md
 try simp only [SS]
 have Bh2:a0.length<=maxLen:=(by
   have:=(H0).1
   try simp only [maxLen] at *
   omega)
 refine ex_eq (out:=ret) (cV (z:=aa.zero)) ?_
 refine dM (p:=Pt.p0 (a0.map aa.row) 0) fz ?_
 refine ck (pt:=fun (i1:Nat) (s3:Unit)=>Pt.p0 (a0.map aa.row) (i1:Int)) (s:=(():Unit)) (out:=ret) (fun _ _=>True) (fun J i1 s3 h2 hih2=>?_) (fun s3 hih2=>?_) trivial
 ·simp only [step,SS]
  have bb_:=Bh2
  simp only [maxLen] at bb_
  have:=(H0).1
  refine bC.yes (by apply decide_eq_true;omega) ?_
  refine bC.bif (fun c4=>?_) (fun c4=>?_)
  ·have dc4:=c4
   try simp only [DC] at dc4
   refine bC.yes (have:=(H0).1;dt) ?_
   refine cr (Z62.an (bM.getD (z:=aa.zero) H0 (by first | assumption | omega | (simp (disch:=omega) only [wi];omega) | (simp;omega)))) ?_
   refine bC.bif (fun c5=>?_) (fun c5=>?_)
   ·refine bC.inr ?_
    all_goals exact fz
   ·have dc5:=c5
    try simp only [DC] at dc5
    refine bC.bif (fun c6=>?_) (fun c6=>?_)
    ·have dc6:=c6
     try simp only [DC] at dc6
     refine bC.yes dt ?_
     refine bC.yes (have:=(H0).1;dt) ?_
     refine bC.yes aI ?_
     refine bC.yes (aK h2) ?_
     refine cr (Z71.an ⟨(bM.getD (z:=aa.zero) H0 (by first | assumption | omega | (simp (disch:=omega) only [wi];omega) | (simp;omega))).1,(bM.getD (z:=aa.zero) H0 h2)⟩) ?_
     refine bC.bif (fun c7=>?_) (fun c7=>?_)
     ·refine bC.inr ?_
      all_goals exact fz
     ·refine bC.inl trivial ?_
      rw [aH h2 Bh2]
      all_goals exact fz
    ·refine bC.inl trivial ?_
     rw [aH h2 Bh2]
     all_goals exact fz
  ·have dc4:=c4
   try simp only [DC] at dc4
   refine bC.bif (fun c8=>?_) (fun c8=>?_)
   ·have dc8:=c8
    try simp only [DC] at dc8
    refine bC.yes dt ?_
    refine bC.yes (have:=(H0).1;dt) ?_
    refine bC.yes aI ?_
    refine bC.yes (aK h2) ?_
    refine cr (Z71.an ⟨(bM.getD (z:=aa.zero) H0 (by first | assumption | omega | (simp (disch:=omega) only [wi];omega) | (simp;omega))).1,(bM.getD (z:=aa.zero) H0 h2)⟩) ?_
    refine bC.bif (fun c9=>?_) (fun c9=>?_)
    ·refine bC.inr ?_
     all_goals exact fz
    ·refine bC.inl trivial ?_
     rw [aH h2 Bh2]
     all_goals exact fz
   ·refine bC.inl trivial ?_
    rw [aH h2 Bh2]
    all_goals exact fz
 ·simp only [step,SS]
  have:=(H0).1
  refine dx (by apply decide_eq_false;omega) ?_
  refine ⟨0,?_⟩
  all_goals exact fz
def af:cD 153 aU:=L1 38 pid bY bX live step start mix aE bA (.cons Z62.af (.cons Z71.af .nil)) Tryz.func153
end Z72
namespace Z73
def F (x0:aB):aJ:=(call (Z45.R ((x0.length:Int),1,12)) fun v1=>(cond v1 (call (Z72.R x0) fun v2=>ret ((decide (v2<0)):Bool)) bf))
def md (a0:List aa):Bool:=(cond (Z45.md (a0.length:Int) 1 12) ((decide ((Z72.md a0)<0)):Bool) (false:Bool))
def gd (a0:List aa):Prop:=(bM (2^21) (fun y:aa=>aa.Sm (2^21) y) a0)
def R:=RR gd md
def an {a0}(h:gd a0):R (a0.map aa.row)=some (md a0):=aP (a:=a0) h
def aU:=CN [pL 141] oB RT.dec R
def bA (a0)(hg:gd a0):F (a0.map aa.row)=ret (md a0):=by
 unfold gd at hg
 have H0:=hg
 unfold F md
 try simp only [SS]
 refine ct (Z45.an trivial) ?_
 refine av ret (fun c1=>?_) (fun _=>rfl)
 refine ct (Z72.an H0) ?_
 all_goals exact fz
def af:cD 121 aU:=W1 11 F mix aE bA (.cons Z45.af (.cons Z72.af .nil)) Tryz.func121
def tr {a0:List aa}(h:md a0=true):1<=a0.length/\a0.length<=12:=by simp [md,Z45.md] at h;omega
def qN {l:List aa}(h:md l=true):∀i,i<l.length->Z51.md (l.getD i aa.zero).aq=true:=by
 intro i hi
 have hl:=tr h
 have h1:Z72.md l<0:=by
  unfold md at h
  cases hc:Z45.md (l.length:Int) 1 12<;>rw [hc] at h
  ·cases h
  ·simpa using h
 unfold Z72.md at h1
 have h2:=sy (z:=aa.zero) (by
  intro i x s b h
  revert h
  simp only [Bool.cond_eq_ite]
  repeat' split
  all_goals (intro h;first | (cases h;rfl) | cases h)) h1 i hi
 by_cases h0:i=0
 ·subst h0
  cases hf:Z62.md (l.getD 0 aa.zero)
  ·rw [hf] at h2;cases h2
  ·unfold Z62.md at hf
   cases hh:Z51.md (l.getD 0 aa.zero).aq
   ·rw [hh] at hf;cases hf
   ·rfl
 ·have e:((i:Int)==0)=false:=beq_eq_false_iff_ne.2 (by omega)
  have e2:decide ((i:Int)>0)=true:=by simpa using by omega
  simp only [e,e2,bu,bh] at h2
  cases hf:Z71.md ((l.getD (toNat (i64.wrap ((i:Int) - 1))) aa.zero).aq) (l.getD i aa.zero)
  ·rw [hf] at h2;cases h2
  ·unfold Z71.md Z70.md at hf
   cases hh:Z51.md (l.getD i aa.zero).aq
   ·rw [hh] at hf
    cases hp:Z51.md ((l.getD (toNat (i64.wrap ((i:Int) - 1))) aa.zero).aq)<;>rw [hp] at hf<;>cases hf
   ·rfl
def Bo {l:List aa}(h:md l=true):∀i,i<l.length->(l.getD i aa.zero).aq.bz=(l.getD 0 aa.zero).aq.bz:=by
 have hl:=tr h
 have h1:Z72.md l<0:=by
  unfold md at h
  cases hc:Z45.md (l.length:Int) 1 12<;>rw [hc] at h
  ·cases h
  ·simpa using h
 unfold Z72.md at h1
 have h2:=sy (z:=aa.zero) (by
  intro i x s b h
  revert h
  simp only [Bool.cond_eq_ite]
  repeat' split
  all_goals (intro h;first | (cases h;rfl) | cases h)) h1
 intro i
 induction i with
 | zero=>intro _;rfl
 | succ i ih=>
  intro hi
  have h3:=h2 (i+1) hi
  have e:(((i+1:Nat):Int)==0)=false:=beq_eq_false_iff_ne.2 (by omega)
  have e2:decide (((i+1:Nat):Int)>0)=true:=by simpa using by omega
  have ei:toNat (i64.wrap (((i+1:Nat):Int) - 1))=i:=by simp (disch:=omega) only [wi];omega
  simp only [e,e2,bu,bh] at h3
  rw [ei] at h3
  cases hf:Z71.md ((l.getD i aa.zero).aq) (l.getD (i+1) aa.zero)
  ·rw [hf] at h3;cases h3
  ·unfold Z71.md Z70.md at hf
   cases hz:((l.getD (i+1) aa.zero).aq.bz != (l.getD i aa.zero).aq.bz)
   ·rw [<-ih (by omega)];exact (by simpa using hz)
   ·rw [hz] at hf
    cases hp:Z51.md (l.getD i aa.zero).aq<;>rw [hp] at hf
    ·cases hf
    ·cases hh:Z51.md (l.getD (i+1) aa.zero).aq<;>rw [hh] at hf<;>cases hf
end Z73
namespace Z74
def F (x0:aB):aJ:=(call (Z73.R x0) fun v1=>(cond (!v1) (ret (((⟨0,0,0,0,0,0,0,0,(⟨[],0⟩:bE),(⟨[],0⟩:bE),0,(⟨[],0⟩:bE),false⟩:cg),false):cg×Bool)) (cj (decide ((0:Int)<=(i64.wrap ((x0.length:Int) - 1)))) (cj (decide ((i64.wrap ((x0.length:Int) - 1))<(x0.length:Int))) (call (Z40.R ((aR.at x0 (toNat (i64.wrap ((x0.length:Int) - 1)))).aq)) fun v2=>ret ((v2,true):cg×Bool))))))
def md (a0:List aa):aF×Bool:=(cond (!(Z73.md a0)) ((⟨0,0,0,0,0,0,0,0,(⟨[],0⟩:aO),(⟨[],0⟩:aO),0,(⟨[],0⟩:aO),false⟩:aF),false) (((a0.getD (toNat (i64.wrap ((a0.length:Int) - 1))) aa.zero).aq),true))
def gd (a0:List aa):Prop:=(bM (2^21) (fun y:aa=>aa.Sm (2^21) y) a0)
def R:=RR gd md
def an {a0}(h:gd a0):R (a0.map aa.row)=some ((aF.r (md a0).1),(md a0).2):=aP (a:=a0) h
def aU:=CN [pL 141] (.iJ [(true,f138),(false,[fB])]) RT.dec R
def bA (a0)(hg:gd a0):F (a0.map aa.row)=ret ((aF.r (md a0).1),(md a0).2):=by
 unfold gd at hg
 have H0:=hg
 unfold F md
 try simp only [SS]
 refine ct (Z73.an H0) ?_
 refine av (fun b:aF×Bool=>ret (((aF.r b.1),b.2):cg×Bool)) (fun c1=>?_) (fun c1=>?_)
 ·all_goals exact fz
 ·have dc1:=c1
  try simp only [DC] at dc1
  try have tc1:=Z73.tr (by simpa using c1)
  refine ak (have:=(H0).1;dt) ?_
  refine ak (have:=(H0).1;dt) ?_
  refine ct (Z40.an (bM.getD (z:=aa.zero) H0 (by first | assumption | omega | (simp (disch:=omega) only [wi];omega) | (simp;omega))).1) ?_
  try simp only [SS]
  all_goals exact fz
def af:cD 101 aU:=W1 16 F mix aE bA (.cons Z73.af (.cons Z40.af .nil)) Tryz.func101
def head {l:List aa}(h:(md l).2=true):Z73.md l=true/\(md l).1=(l.getD (l.length - 1) aa.zero).aq/\Z51.md (md l).1=true:=by
 unfold md at h ⊢
 cases hc:Z73.md l
 ·rw [hc] at h;cases h
 ·have hl:=Z73.tr hc
  have hw:toNat (i64.wrap ((l.length:Int) - 1))=l.length - 1:=by
   rw [Go.IntWalk.i64_in _ (by omega)];omega
  simp only [Bool.not_true,bu,hw]
  exact ⟨trivial,trivial,Z73.qN hc _ (by omega)⟩
end Z74
namespace Z75
def F (x0:aY):aJ:=(cond (x0.bQ==1) (call (Z46.R x0.bw) fun v1=>(cond v1 (call (Z45.R (x0.cw,0,999999)) fun v2=>(cond v2 (ret (((x0.bK.length:Int)==0):Bool)) bf)) bf)) (cond (x0.bQ==2) (call (Z46.R x0.bw) fun v3=>(cond v3 (call (Z45.R (x0.cw,0,2147483646)) fun v4=>(cond v4 (ret (((x0.bK.length:Int)==0):Bool)) bf)) bf)) (cond (x0.bQ==3) (call (Z46.R x0.bw) fun v5=>(cond v5 (call (Z45.R (x0.cw,0,2147483646)) fun v6=>(cond v6 (call (Z47.R x0.bK) fun v7=>ret (v7:Bool)) bf)) bf)) bf)))
def md (a0:ah):Bool:=(cond (a0.bQ==1) (cond (Z46.md a0.bw) (cond (Z45.md a0.cw 0 999999) (((a0.bK.length:Int)==0):Bool) (false:Bool)) (false:Bool)) (cond (a0.bQ==2) (cond (Z46.md a0.bw) (cond (Z45.md a0.cw 0 2147483646) (((a0.bK.length:Int)==0):Bool) (false:Bool)) (false:Bool)) (cond (a0.bQ==3) (cond (Z46.md a0.bw) (cond (Z45.md a0.cw 0 2147483646) ((Z47.md a0.bK):Bool) (false:Bool)) (false:Bool)) (false:Bool))))
def gd (a0:ah):Prop:=(ah.Sm (2^21) a0)
def R:=RR gd md
def an {a0}(h:gd a0):R (ah.r a0)=some (md a0):=aP (a:=a0) h
def aU:=CN [.agg rV] oB RT.dec R
def bA (a0)(hg:gd a0):F (ah.r a0)=ret (md a0):=by
 unfold gd at hg
 have H0:=hg
 unfold F md
 try simp only [SS]
 refine av ret (fun c1=>?_) (fun c1=>?_)
 ·refine ct (Z46.an (le_trans H0.1 (by decide))) ?_
  refine av ret (fun c2=>?_) (fun _=>rfl)
  refine ct (Z45.an trivial) ?_
  refine av ret (fun c3=>?_) (fun _=>rfl)
  all_goals exact fz
 ·refine av ret (fun c4=>?_) (fun c4=>?_)
  ·refine ct (Z46.an (le_trans H0.1 (by decide))) ?_
   refine av ret (fun c5=>?_) (fun _=>rfl)
   refine ct (Z45.an trivial) ?_
   refine av ret (fun c6=>?_) (fun _=>rfl)
   all_goals exact fz
  ·refine av ret (fun c7=>?_) (fun _=>rfl)
   refine ct (Z46.an (le_trans H0.1 (by decide))) ?_
   refine av ret (fun c8=>?_) (fun _=>rfl)
   refine ct (Z45.an trivial) ?_
   refine av ret (fun c9=>?_) (fun _=>rfl)
   refine ct (Z47.an (H0.2.mono (by decide) (fun x hx=>(le_trans hx (by decide))))) ?_
   all_goals exact fz
def af:cD 193 aU:=W1 52 F mix aE bA (.cons Z46.af (.cons Z45.af (.cons Z47.af .nil))) Tryz.func193
end Z75
namespace Z76
def F (x0 x1:aD):aJ:=(cond (Op.bytesLess x0.toList x1.toList) (ret ((-1):Int)) (cond (!((Op.bytesLess x0.toList x1.toList)||(x0.toList==x1.toList))) (ret (1:Int)) (ret (0:Int))))
def md (a0 a1:aD):Int:=(cond (Op.bytesLess a0.toList a1.toList) ((-1):Int) (cond (!((Op.bytesLess a0.toList a1.toList)||(a0.toList==a1.toList))) (1:Int) (0:Int)))
def gd (a0 a1:aD):Prop:=True
def R:=RR (p2 gd) (u2 md)
def an {a0 a1}(h:gd a0 a1):R (a0,a1)=some (md a0 a1):=aP (a:=(a0,a1)) h
def aU:=CN [pS,pS] oI RT.dec R
def bA (a0)(a1)(hg:gd a0 a1):F a0 a1=ret (md a0 a1):=by
 unfold F md
 try simp only [SS]
 refine av ret (fun _=>rfl) (fun c1=>?_)
 refine av ret (fun _=>rfl) (fun _=>rfl)
def af:cD 198 aU:=W2 13 F mix aE bA .nil Tryz.func198
def vals (a b:aD):md a b=-1∨md a b=0∨md a b=1:=by
 unfold md
 cases Op.bytesLess a.toList b.toList
 ·cases (!(false||(a.toList==b.toList)))<;>simp
 ·simp
def lt (a b:aD):decide (md a b<0)=(md a b == -1):=by
 rcases vals a b with h | h | h<;>rw [h]<;>rfl
def gt (a b:aD):decide (md a b>0)=(md a b==1):=by
 rcases vals a b with h | h | h<;>rw [h]<;>rfl
def bl:∀a b:List UInt8,(Op.bytesLess a b||a==b)=!(Op.bytesLess b a)
 | [],[]=>by simp [Op.bytesLess]
 | [],_::_=>by simp [Op.bytesLess]
 | _::_,[]=>by simp [Op.bytesLess]
 | a::xs,b::ys=>by
  have ih:=bl xs ys
  simp only [Op.bytesLess]
  by_cases h1:a<b
  ·have h2:¬b<a:=UInt8.not_lt.2 (UInt8.le_of_lt h1)
   have h3:¬b=a:=fun h=>by subst h;exact UInt8.lt_irrefl _ h1
   simp [h1,h2,h3]
  ·by_cases h2:a=b
   ·subst h2
    have hr:¬a<a:=UInt8.lt_irrefl a
    simp only [hr,decide_false,Bool.false_or,beq_self_eq_true,Bool.true_and,List.cons_beq_cons]
    exact ih
   ·have h3:b<a:=by
     rcases UInt8.lt_or_lt_of_ne h2 with h | h
     ·exact (h1 h).elim
     ·exact h
    simp [h1,h2,h3,List.cons_beq_cons]
def swap (a b:aD):decide (md a b<=0)=(md b a != -1):=by
 unfold md
 rw [bl a.toList b.toList,bl b.toList a.toList]
 have h:=bl a.toList b.toList
 cases h1:Op.bytesLess a.toList b.toList<;>cases h2:Op.bytesLess b.toList a.toList<;>rw [h1,h2] at h<;>simp at h ⊢
end Z76
namespace Z77
inductive Pt where
 | p0 (a:aB) (b:Int)
def pid:Pt->Nat
 | .p0 ..=>2
def bY:Pt->List V
 | .p0 a b=>[.sl none 57 a,.int .i64 b]
def bX:Pt->List aV
 | .p0 a b=>[]
def step (J:Pt->aJ):Pt->aJ
 | .p0 a b=>(cond (decide (b<(a.length:Int))) (m2 b (a.length:Int) (call (Z75.R (aY.at a (toNat b))) fun v1=>(cond (!v1) bf (cond (decide (b>0)) (cj (decide ((0:Int)<=(i64.wrap (b - 1)))) (cj (decide ((i64.wrap (b - 1))<(a.length:Int))) (m2 b (a.length:Int) (call (Z76.R ((aY.at a (toNat (i64.wrap (b - 1)))).bw,(aY.at a (toNat b)).bw)) fun v2=>(cond (v2 != (-1)) bf (J (.p0 a (i64.wrap (b+1))))))))) (J (.p0 a (i64.wrap (b+1)))))))) (ret ((decide ((a.length:Int)<=12)):Bool)))
def start (J:Pt->aJ)(x0:aB):aJ:=J (.p0 x0 0)
def live:Nat->Live:=fun i=>match i with | 2=>[(0,none),(3,none)] | _=>[]
def md (a0:List ah):Bool:=(dD (S:=Unit) (β:=Bool) (fun (i1:Nat) (y1:ah) (s3:Unit)=>(cond (!(Z75.md y1)) (.inr (false:Bool)) (cond (decide ((i1:Int)>0)) (cond ((Z76.md ((a0.getD (toNat (i64.wrap ((i1:Int) - 1))) ah.zero).bw) (y1.bw)) != (-1)) (.inr (false:Bool)) (.inl ())) (.inl ())))) (fun (s3:Unit)=>((decide ((a0.length:Int)<=12)):Bool)) 0 a0 ())
def gd (a0:List ah):Prop:=(bM (2^21) (fun y:ah=>ah.Sm (2^21) y) a0)
def R:=RR gd md
def an {a0}(h:gd a0):R (a0.map ah.row)=some (md a0):=aP (a:=a0) h
def aU:=CN [pL 57] oB RT.dec R
def bA (a0)(hg:gd a0):∃n,start (iter step n) (a0.map ah.row)=ret (md a0):=by
 unfold gd at hg
 have H0:=hg
 unfold start md
 try simp only [SS]
 have Bh2:a0.length<=maxLen:=(by
   have:=(H0).1
   try simp only [maxLen] at *
   omega)
 refine ex_eq (out:=ret) (cV (z:=ah.zero)) ?_
 refine dM (p:=Pt.p0 (a0.map ah.row) 0) fz ?_
 refine ck (pt:=fun (i1:Nat) (s3:Unit)=>Pt.p0 (a0.map ah.row) (i1:Int)) (s:=(():Unit)) (out:=ret) (fun _ _=>True) (fun J i1 s3 h2 hih2=>?_) (fun s3 hih2=>?_) trivial
 ·simp only [step,SS]
  have bb_:=Bh2
  simp only [maxLen] at bb_
  have:=(H0).1
  refine bC.yes (by apply decide_eq_true;omega) ?_
  refine bC.yes aI ?_
  refine bC.yes (aK h2) ?_
  refine cr (Z75.an (bM.getD (z:=ah.zero) H0 h2)) ?_
  refine bC.bif (fun _=>bC.inr rfl) (fun c4=>?_)
  have dc4:=c4
  try simp only [DC] at dc4
  refine bC.bif (fun c5=>?_) (fun c5=>?_)
  ·have dc5:=c5
   try simp only [DC] at dc5
   refine bC.yes dt ?_
   refine bC.yes (have:=(H0).1;dt) ?_
   refine bC.yes aI ?_
   refine bC.yes (aK h2) ?_
   refine cr (Z76.an trivial) ?_
   refine bC.bif (fun _=>bC.inr rfl) (fun c6=>?_)
   refine bC.inl trivial ?_
   rw [aH h2 Bh2]
   all_goals exact fz
  ·refine bC.inl trivial ?_
   rw [aH h2 Bh2]
   all_goals exact fz
 ·simp only [step,SS]
  have:=(H0).1
  refine dx (by apply decide_eq_false;omega) ?_
  refine ⟨0,?_⟩
  all_goals exact fz
def af:cD 203 aU:=L1 38 pid bY bX live step start mix aE bA (.cons Z75.af (.cons Z76.af .nil)) Tryz.func203
end Z77
namespace Z78
inductive Pt where
 | p0 (a:aB) (b:Int) (c:aB)
def pid:Pt->Nat
 | .p0 ..=>3
def bY:Pt->List V
 | .p0 a b c=>[.sl none 5 a,.own 0,.int .i64 b]
def bX:Pt->List aV
 | .p0 a b c=>[.row 3 c]
def step (J:Pt->aJ):Pt->aJ
 | .p0 a b c=>(cond (decide (b<(a.length:Int))) (m2 b (a.length:Int) (cj (eS (((c.length:Int)+1)*8)) (J (.p0 a (i64.wrap (b+1)) (c++[[L.int (i64.wrap (jt a (toNat b)))]]))))) (ret (c:aB)))
def start (J:Pt->aJ)(x0:aB):aJ:=J (.p0 x0 0 [[L.int (x0.length:Int)]])
def live:Nat->Live:=fun i=>match i with | 3=>[(0,none),(3,none),(4,none)] | _=>[]
def md (a0:List Int):List Int:=([(a0.length:Int)]++a0.map (fun (y1:Int)=>(i64.wrap y1)))
def gd (a0:List Int):Prop:=(bM (2^38) (fun y:Int=>True) a0)
def R:=RR gd md
def an {a0}(h:gd a0):R (a0.map bq)=some ((md a0).map bq):=aP (a:=a0) h
def aU:=CN [pL 5] (oL 3) RT.dec R
def bA (a0)(hg:gd a0):∃n,start (iter step n) (a0.map bq)=ret ((md a0).map bq):=by
 unfold gd at hg
 have H0:=hg
 unfold start md
 try simp only [SS]
 have Bh2:a0.length<=maxLen:=(by
   have:=(H0).1
   try simp only [maxLen] at *
   omega)
 refine ex_eq (out:=(fun b:List Int=>ret ((b.map bq):aB))) (lS (g:=fun (y1:Int)=>(i64.wrap y1)) (z:=0) (t:=fun (s3:List Int)=>s3) (s:=[(a0.length:Int)])) ?_
 refine dM (p:=Pt.p0 (a0.map bq) 0 ([(a0.length:Int)].map bq)) fz ?_
 refine ck (pt:=fun (i1:Nat) (s3:List Int)=>Pt.p0 (a0.map bq) (i1:Int) (s3.map bq)) (s:=([(a0.length:Int)]:List Int)) (out:=(fun b:List Int=>ret ((b.map bq):aB))) (fun (i1:Nat) (s3:List Int)=>s3.length<=[(a0.length:Int)].length+1*i1) (fun J i1 s3 h2 hih2=>?_) (fun s3 hih2=>?_) (by simp)
 ·simp only [step,SS]
  have gr_:=hih2
  try simp only [LN] at gr_
  have:=(H0).1
  have bb_:=Bh2
  simp only [maxLen] at bb_
  have:=(H0).1
  refine bC.yes (by apply decide_eq_true;omega) ?_
  refine bC.yes aI ?_
  refine bC.yes (aK h2) ?_
  refine bC.yes lm ?_
  refine bC.inl (by
    have g_:=hih2
    try simp only [LN] at g_ ⊢
    first | omega | (simp;done) | (simp;omega)) ?_
  rw [aH h2 Bh2]
  all_goals exact fz
 ·simp only [step,SS]
  have gr_:=hih2
  try simp only [LN] at gr_
  have:=(H0).1
  have:=(H0).1
  refine dx (by apply decide_eq_false;omega) ?_
  refine ⟨0,?_⟩
  all_goals exact fz
def af:cD 286 aU:=L1 23 pid bY bX live step start mix aE bA .nil Tryz.func286
def len (a0:List Int):(md a0).length=1+a0.length:=by simp [md];omega
end Z78
namespace Z79
def F (x0:aD):aJ:=(cj (decide ((x0.size:Int)<=140737488355328)) (call (Z78.R (ia x0)) fun v1=>ret (v1:aB)))
def md (a0:aD):List Int:=(Z78.md (iO a0))
def gd (a0:aD):Prop:=(a0.size<=(2^21))
def R:=RR gd md
def an {a0}(h:gd a0):R a0=some ((md a0).map bq):=aP (a:=a0) h
def aU:=CN [pS] (oL 3) RT.dec R
def bA (a0)(hg:gd a0):F a0=ret ((md a0).map bq):=by
 unfold gd at hg
 have H0:=hg
 unfold F md
 try simp only [SS]
 refine ak (have:=H0;dt) ?_
 refine aZ ((Z78.md (iO a0)).map bq) (rq (Z78.an (a0:=(iO a0)) ⟨(have:=gK a0;have:=H0;om),fun _ _=>trivial⟩)) ?_
 try simp only [SS]
 all_goals exact fz
def af:cD 263 aU:=W1 6 F mix aE bA (.cons Z78.af .nil) Tryz.func263
def len (a0:aD):(md a0).length=1+a0.size:=by simp [md,Z78.len,gK]
end Z79
namespace Z80
inductive Pt where
 | p0 (a:Int) (b:aY) (c:aB)
def pid:Pt->Nat
 | .p0 ..=>3
def bY:Pt->List V
 | .p0 a b c=>[.cN 0 0,.own 1,.int .i64 a]
def bX:Pt->List aV
 | .p0 a b c=>[.box [.str b.bw,.int .i64 b.bQ,.int .i64 b.cw,.sl none 9 b.bK],.row 3 c]
def step (J:Pt->aJ):Pt->aJ
 | .p0 a b c=>(cond (decide (a<(b.bK.length:Int))) (m2 a (b.bK.length:Int) (call (Z79.R (pV b.bK (toNat a))) fun v1=>(cj (eS (((c.length:Int)+(v1.length:Int))*8)) (J (.p0 (i64.wrap (a+1)) b (c++v1)))))) (ret (c:aB)))
def start (J:Pt->aJ)(x0:aY):aJ:=(call (Z79.R x0.bw) fun v1=>(cj (eS (((v1.length:Int)+3)*8)) (J (.p0 0 x0 (v1++[[L.int x0.bQ],[L.int x0.cw],[L.int (x0.bK.length:Int)]])))))
def live:Nat->Live:=fun i=>match i with | 3=>[(1,none),(3,none),(4,none)] | _=>[]
def md (a0:ah):List Int:=(((Z79.md a0.bw)++[a0.bQ,a0.cw,(a0.bK.length:Int)])++a0.bK.flatMap (fun (y1:aD)=>(Z79.md y1)))
def gd (a0:ah):Prop:=(ah.Sm (2^21) a0)
def R:=RR gd md
def an {a0}(h:gd a0):R (ah.r a0)=some ((md a0).map bq):=aP (a:=a0) h
def aU:=CN [.agg rV] (oL 3) RT.dec R
def bA (a0)(hg:gd a0):∃n,start (iter step n) (ah.r a0)=ret ((md a0).map bq):=by
 unfold gd at hg
 have H0:=hg
 unfold start md
 try simp only [SS]
 refine cx (Z79.an H0.1) ?_
 try simp only [SS]
 refine dF (have:=Z79.len a0.bw;have:=H0.1;lm) ?_
 have Bh2:a0.bK.length<=maxLen:=(by
   have:=(H0.2).1
   try simp only [maxLen] at *
   omega)
 refine ex_eq (out:=(fun b:List Int=>ret ((b.map bq):aB))) (qR (g:=fun (y1:aD)=>(Z79.md y1)) (z:=⟨#[]⟩) (t:=fun (s3:List Int)=>s3) (s:=((Z79.md a0.bw)++[a0.bQ,a0.cw,(a0.bK.length:Int)]))) ?_
 refine dM (p:=Pt.p0 0 (ah.r a0) (((Z79.md a0.bw)++[a0.bQ,a0.cw,(a0.bK.length:Int)]).map bq)) fz ?_
 refine ck (pt:=fun (i1:Nat) (s3:List Int)=>Pt.p0 (i1:Int) (ah.r a0) (s3.map bq)) (s:=(((Z79.md a0.bw)++[a0.bQ,a0.cw,(a0.bK.length:Int)]):List Int)) (out:=(fun b:List Int=>ret ((b.map bq):aB))) (fun (i1:Nat) (s3:List Int)=>s3.length<=4+a0.bw.size+i1*(2^21+1)) (fun J i1 s3 h2 hih2=>?_) (fun s3 hih2=>?_) (by
   have:=(H0.2).1
   have:=Z79.len a0.bw
   have:=H0.1
   try simp only [LN]
   try simp
   try omega)
 ·simp only [step,SS]
  have gr_:=hih2
  try simp only [LN] at gr_
  have:=H0.1
  have bb_:=Bh2
  simp only [maxLen] at bb_
  have:=(H0.2).1
  refine bC.yes (by apply decide_eq_true;omega) ?_
  refine bC.yes aI ?_
  refine bC.yes (aK h2) ?_
  refine cr (Z79.an (bM.getD (z:=⟨#[]⟩) H0.2 h2)) ?_
  try simp only [SS]
  refine bC.yes (have:=Z79.len (a0.bK.getD i1 ⟨#[]⟩);have:=(bM.getD (z:=⟨#[]⟩) H0.2 h2);lm) ?_
  refine bC.inl (by
    have:=Z79.len (a0.bK.getD i1 ⟨#[]⟩)
    have:=(bM.getD (z:=⟨#[]⟩) H0.2 h2)
    have g_:=hih2
    try simp only [LN] at g_ ⊢
    first | omega | (simp;done) | (simp;omega)) ?_
  rw [aH h2 Bh2]
  all_goals exact fz
 ·simp only [step,SS]
  have gr_:=hih2
  try simp only [LN] at gr_
  have:=H0.1
  have:=(H0.2).1
  refine dx (by apply decide_eq_false;omega) ?_
  refine ⟨0,?_⟩
  all_goals exact fz
def af:cD 233 aU:=L1 33 pid bY bX live step start mix aE bA (.cons Z79.af .nil) Tryz.func233
def fL {a0:ah}(hg:gd a0):bM (2^43 - 1) (fun y:Int=>True) (md a0):=by
 unfold gd at hg
 refine ⟨?_,fun _ _=>trivial⟩
 unfold md
 have h1:=lJ (xs:=a0.bK) (g:=fun y=>Z79.md y) (n:=2^21+1) (fun x hx=>by rw [Z79.len];have:=hg.2.2 x hx;omega)
 have h2:=hg.1
 have h3:=hg.2.1
 have h4:=Z79.len a0.bw
 simp only [List.length_append,List.length_cons,List.length_nil]
 omega
end Z80
namespace Z81
def F (x0:aY):aJ:=(call (Z80.R x0) fun v1=>(cj (eS (((1:Int)+(v1.length:Int))*8)) (call (Z54.R ([[L.int 227]]++v1)) fun v2=>ret (v2:Int))))
def md (a0:ah):Int:=((Z54.md ([227]++(Z80.md a0))):Int)
def gd (a0:ah):Prop:=(ah.Sm (2^21) a0)
def R:=RR gd md
def an {a0}(h:gd a0):R (ah.r a0)=some (md a0):=aP (a:=a0) h
def aU:=CN [.agg rV] oI RT.dec R
def bA (a0)(hg:gd a0):F (ah.r a0)=ret (md a0):=by
 unfold gd at hg
 have H0:=hg
 unfold F md
 try simp only [SS]
 refine ct (Z80.an H0) ?_
 try simp only [SS]
 refine ak (have:=((Z80.fL (a0:=a0) H0)).1;lm) ?_
 refine aZ (Z54.md ([227]++(Z80.md a0))) (rq (Z54.an (a0:=([227]++(Z80.md a0))) ⟨(have:=((Z80.fL (a0:=a0) H0)).1;om),fun _ _=>trivial⟩)) ?_
 all_goals exact fz
def af:cD 192 aU:=W1 8 F mix aE bA (.cons Z80.af (.cons Z54.af .nil)) Tryz.func192
end Z81
namespace Z82
inductive Pt where
 | p0 (a:aB) (b:Int) (c:aB)
def pid:Pt->Nat
 | .p0 ..=>3
def bY:Pt->List V
 | .p0 a b c=>[.sl none 57 a,.own 0,.int .i64 b]
def bX:Pt->List aV
 | .p0 a b c=>[.row 3 c]
def step (J:Pt->aJ):Pt->aJ
 | .p0 a b c=>(cond (decide (b<(a.length:Int))) (m2 b (a.length:Int) (call (Z81.R (aY.at a (toNat b))) fun v1=>(cj (eS (((c.length:Int)+1)*8)) (J (.p0 a (i64.wrap (b+1)) (c++[[L.int v1]])))))) (ret (c:aB)))
def start (J:Pt->aJ)(x0:aB):aJ:=J (.p0 x0 0 [])
def live:Nat->Live:=fun i=>match i with | 3=>[(0,none),(3,some 3),(4,none)] | _=>[]
def md (a0:List ah):List Int:=(a0.map (fun (y1:ah)=>(Z81.md y1)))
def gd (a0:List ah):Prop:=(bM (2^21) (fun y:ah=>ah.Sm (2^21) y) a0)
def R:=RR gd md
def an {a0}(h:gd a0):R (a0.map ah.row)=some ((md a0).map bq):=aP (a:=a0) h
def aU:=CN [pL 57] (oL 3) RT.dec R
def bA (a0)(hg:gd a0):∃n,start (iter step n) (a0.map ah.row)=ret ((md a0).map bq):=by
 unfold gd at hg
 have H0:=hg
 unfold start md
 try simp only [SS]
 have Bh2:a0.length<=maxLen:=(by
   have:=(H0).1
   try simp only [maxLen] at *
   omega)
 refine ex_eq (out:=(fun b:List Int=>ret ((b.map bq):aB))) (mE (g:=fun (y1:ah)=>(Z81.md y1)) (z:=ah.zero) (t:=fun (s3:List Int)=>s3)) ?_
 refine dM (p:=Pt.p0 (a0.map ah.row) 0 ([].map bq)) fz ?_
 refine ck (pt:=fun (i1:Nat) (s3:List Int)=>Pt.p0 (a0.map ah.row) (i1:Int) (s3.map bq)) (s:=([]:List Int)) (out:=(fun b:List Int=>ret ((b.map bq):aB))) (fun (i1:Nat) (s3:List Int)=>s3.length<=([]:List Int).length+1*i1) (fun J i1 s3 h2 hih2=>?_) (fun s3 hih2=>?_) (by simp)
 ·simp only [step,SS]
  have gr_:=hih2
  try simp only [LN] at gr_
  have bb_:=Bh2
  simp only [maxLen] at bb_
  have:=(H0).1
  refine bC.yes (by apply decide_eq_true;omega) ?_
  refine bC.yes aI ?_
  refine bC.yes (aK h2) ?_
  refine cr (Z81.an (bM.getD (z:=ah.zero) H0 h2)) ?_
  refine bC.yes lm ?_
  refine bC.inl (by
    have g_:=hih2
    try simp only [LN] at g_ ⊢
    first | omega | (simp;done) | (simp;omega)) ?_
  rw [aH h2 Bh2]
  all_goals exact fz
 ·simp only [step,SS]
  have gr_:=hih2
  try simp only [LN] at gr_
  have:=(H0).1
  refine dx (by apply decide_eq_false;omega) ?_
  refine ⟨0,?_⟩
  all_goals exact fz
def af:cD 202 aU:=L1 21 pid bY bX live step start mix aE bA (.cons Z81.af .nil) Tryz.func202
def len (a0:List ah):(md a0).length=a0.length:=by simp [md]
end Z82
namespace Z83
def F (x0 x1:Int):aJ:=(call (Z54.R [[L.int 229],[L.int x0],[L.int x1]]) fun v1=>ret (v1:Int))
def md (a0 a1:Int):Int:=((Z54.md [229,a0,a1]):Int)
def gd (a0 a1:Int):Prop:=True
def R:=RR (p2 gd) (u2 md)
def an {a0 a1}(h:gd a0 a1):R (a0,a1)=some (md a0 a1):=aP (a:=(a0,a1)) h
def aU:=CN [pI,pI] oI RT.dec R
def bA (a0)(a1)(hg:gd a0 a1):F a0 a1=ret (md a0 a1):=by
 unfold F md
 try simp only [SS]
 refine aZ (Z54.md [229,a0,a1]) (rq (Z54.an (a0:=[229,a0,a1]) ⟨(om),fun _ _=>trivial⟩)) ?_
 all_goals exact fz
def af:cD 231 aU:=W2 9 F mix aE bA (.cons Z54.af .nil) Tryz.func231
end Z83
namespace Z84
inductive Pt where
 | p0 (a:aB) (b:Int) (c:aB)
def pid:Pt->Nat
 | .p0 ..=>3
def bY:Pt->List V
 | .p0 a b c=>[.sl none 3 a,.own 0,.int .i64 b]
def bX:Pt->List aV
 | .p0 a b c=>[.row 3 c]
def step (J:Pt->aJ):Pt->aJ
 | .p0 a b c=>(cond (decide (b<(a.length:Int))) (cond (decide ((i64.wrap (b+1))<(a.length:Int))) (m2 b (a.length:Int) (cj (decide ((0:Int)<=(i64.wrap (b+1)))) (cj (decide ((i64.wrap (b+1))<(a.length:Int))) (call (Z83.R ((jt a (toNat b)),(jt a (toNat (i64.wrap (b+1)))))) fun v1=>(cj (eS (((c.length:Int)+1)*8)) (J (.p0 a (i64.wrap (b+2)) (c++[[L.int v1]])))))))) (m2 b (a.length:Int) (cj (eS (((c.length:Int)+1)*8)) (J (.p0 a (i64.wrap (b+2)) (c++[[L.int (jt a (toNat b))]])))))) (ret (c:aB)))
def start (J:Pt->aJ)(x0:aB):aJ:=J (.p0 x0 0 [])
def live:Nat->Live:=fun i=>match i with | 3=>[(0,none),(3,some 3),(4,none)] | _=>[]
def up:List Int->List Int
 | []=>[]
 | [a]=>[a]
 | a::b::r=>Z83.md a b::up r
def kf:∀l:List Int,(up l).length=(l.length+1) / 2
 | []=>by simp [up]
 | [_]=>by simp [up]
 | _::_::r=>by
  have:=kf r
  simp only [up,List.length_cons]
  omega
def md (a0:List Int):List Int:=up a0
def gd (a0:List Int):Prop:=bM (2^38) (fun y:Int=>True) a0
def R:=RR gd md
def an {a0}(h:gd a0):R (a0.map bq)=some ((md a0).map bq):=aP (a:=a0) h
def aU:=CN [pL 3] (oL 3) RT.dec R
def bA (a0)(hg:gd a0):∃n,start (iter step n) (a0.map bq)=ret ((md a0).map bq):=by
 obtain ⟨H1,_⟩:=hg
 have key:∀(k i:Nat) (c:List Int),i+k=a0.length->c.length<=i->∃n,iter step n (Pt.p0 (a0.map bq) (i:Int) (c.map bq))=ret ((c++up (a0.drop i)).map bq:aB):=by
  intro k
  induction k using Nat.strongRecOn with
  | _ k ih=>
  intro i c hi hc
  match k,hi,ih with
  | 0,hi,_=>
   refine ⟨1,?_⟩
   show step (iter step 0) (Pt.p0 _ _ _)=_
   simp only [step,List.length_map]
   refine cH (decide_eq_false (by omega)) ?_
   rw [List.drop_eq_nil_of_le (by omega)]
   simp only [up,List.append_nil]
  | 1,hi,ih=>
   obtain ⟨n,hn⟩:=ih 0 (by omega) (i+1) (c++[a0.getD i 0]) (by omega) (by simp;omega)
   have h2:∃n,iter step n (Pt.p0 (a0.map bq) (i64.wrap ((i:Int)+2)) ((c++[a0.getD i 0]).map bq))=ret ((c++[a0.getD i 0]).map bq:aB):=by
    refine ⟨1,?_⟩
    show step (iter step 0) (Pt.p0 _ _ _)=_
    simp only [step,List.length_map]
    refine cH (decide_eq_false ?_) rfl
    rw [Go.IntWalk.i64_in _ (by omega)];omega
   obtain ⟨n,hn⟩:=h2
   refine ⟨n+1,?_⟩
   show step (iter step n) (Pt.p0 _ _ _)=_
   simp only [step,List.length_map,cz,gL]
   refine ak (decide_eq_true (by omega)) (cH (decide_eq_false ?_) (ak (decide_eq_true (by omega)) (ak (decide_eq_true (by omega)) (ak (iF (by omega)) ?_))))
   ·rw [Go.IntWalk.i64_in _ (by omega)];omega
   ·rw [List.map_append] at hn
    refine Eq.trans hn ?_
    rw [List.drop_eq_getElem_cons (by omega),List.drop_eq_nil_of_le (by omega),eJ (by omega:i<a0.length)]
    simp only [up,List.map_append]
  | k+2,hi,ih=>
   obtain ⟨n,hn⟩:=ih k (by omega) (i+2) (c++[Z83.md (a0.getD i 0) (a0.getD (i+1) 0)]) (by omega) (by simp;omega)
   refine ⟨n+1,?_⟩
   show step (iter step n) (Pt.p0 _ _ _)=_
   have w1:i64.wrap ((i:Int)+1)=((i+1:Nat):Int):=by rw [Go.IntWalk.i64_in _ (by omega)];omega
   have w2:i64.wrap ((i:Int)+2)=((i+2:Nat):Int):=by rw [Go.IntWalk.i64_in _ (by omega)];omega
   simp only [step,List.length_map,w1,w2,cz,gL]
   refine ak (decide_eq_true (by omega)) (ak (decide_eq_true (by omega)) (ak (decide_eq_true (by omega)) (ak (decide_eq_true (by omega)) (ak (decide_eq_true (by omega)) (ak (decide_eq_true (by omega)) ?_)))))
   refine aZ (Z83.md (a0.getD i 0) (a0.getD (i+1) 0)) (Z83.an trivial) (ak (iF (by omega)) ?_)
   rw [List.map_append] at hn
   refine Eq.trans hn ?_
   rw [List.drop_eq_getElem_cons (by omega:i<a0.length),List.drop_eq_getElem_cons (by omega:i+1<a0.length),eJ (by omega:i<a0.length),eJ (by omega:i+1<a0.length)]
   simp only [up,List.append_assoc,List.cons_append,List.nil_append]
 have:=key a0.length 0 [] (by omega) (by simp)
 unfold start md
 simpa using this
def af:cD 236 aU:=L1 38 pid bY bX live step start mix aE bA (.cons Z83.af .nil) Tryz.func236
end Z84
namespace Z85
inductive Pt where
 | p0 (a:aB)
 | p1 (a:aB)
def pid:Pt->Nat
 | .p0 ..=>4
 | .p1 ..=>4
def bY:Pt->List V
 | .p0 a=>[.sl none 3 a]
 | .p1 a=>[.own 0]
def bX:Pt->List aV
 | .p0 a=>[]
 | .p1 a=>[.row 3 a]
def step (J:Pt->aJ):Pt->aJ
 | .p0 a=>(cond (decide ((a.length:Int)>1)) (call (Z84.R a) fun v1=>J (.p1 v1)) (cj (decide ((0:Int)<(a.length:Int))) (ret ((jt a 0):Int))))
 | .p1 a=>(cond (decide ((a.length:Int)>1)) (call (Z84.R a) fun v1=>J (.p1 v1)) (cj (decide ((0:Int)<(a.length:Int))) (ret ((jt a 0):Int))))
def start (J:Pt->aJ)(x0:aB):aJ:=(cond ((x0.length:Int)==0) (call (Z54.R [[L.int 229]]) fun v1=>ret (v1:Int)) (J (.p0 x0)))
def live:Nat->Live:=fun i=>match i with | 4=>[(3,none)] | _=>[]
def top:Nat->List Int->Int
 | 0,l=>l.getD 0 0
 | k+1,l=>if l.length>1 then top k (Z84.up l) else l.getD 0 0
def md (a0:List Int):Int:=(if a0.length=0 then Z54.md [229] else top a0.length a0)
def gd (a0:List Int):Prop:=bM (2^38) (fun y:Int=>True) a0
def R:=RR gd md
def an {a0}(h:gd a0):R (a0.map bq)=some (md a0):=aP (a:=a0) h
def aU:=CN [pL 3] oI RT.dec R
def bA (a0)(hg:gd a0):∃n,start (iter step n) (a0.map bq)=ret (md a0):=by
 have one:∀(l:List Int) (r:Int) (n:Nat),bM (2^38) (fun y:Int=>True) l->0<l.length->(if l.length>1 then iter step n (Pt.p1 ((Z84.up l).map bq))=ret r else ret (l.getD 0 0:Int)=ret r)->step (iter step n) (Pt.p0 (l.map bq))=ret r/\step (iter step n) (Pt.p1 (l.map bq))=ret r:=by
  intro l r n hl hp h
  simp only [step,List.length_map,gL]
  by_cases h1:l.length>1
  ·rw [if_pos h1] at h
   have hx:∀y:aJ,(cond (decide ((l.length:Int)>1)) (call (Z84.R (l.map bq)) (fun v1=>iter step n (Pt.p1 v1))) y)=ret r:=fun y=>
    ak (decide_eq_true (by omega)) (aZ ((Z84.up l).map bq) (Z84.an hl) h)
   exact ⟨hx _,hx _⟩
  ·rw [if_neg h1] at h
   have hx:∀y:aJ,(cond (decide ((l.length:Int)>1)) y (cond (decide ((0:Int)<(l.length:Int))) (ret (l.getD 0 0:Int)) none))=ret r:=fun y=>
    cH (decide_eq_false (by omega)) (ak (decide_eq_true (by omega)) h)
   exact ⟨hx _,hx _⟩
 have key:∀(k:Nat) (l:List Int),bM (2^38) (fun y:Int=>True) l->0<l.length->l.length<=k+1->∃n,step (iter step n) (Pt.p0 (l.map bq))=ret (top k l)/\step (iter step n) (Pt.p1 (l.map bq))=ret (top k l):=by
  intro k
  induction k with
  | zero=>
   intro l hl hp hk
   exact ⟨0,one l _ 0 hl hp (by rw [if_neg (by omega)];rfl)⟩
  | succ k ih=>
   intro l hl hp hk
   by_cases h1:l.length>1
   ·have hu:=Z84.kf l
    have hl1:=hl.1
    obtain ⟨n,_,hn⟩:=ih (Z84.up l) ⟨by omega,fun _ _=>trivial⟩ (by omega) (by omega)
    refine ⟨n+1,one l _ (n+1) hl hp ?_⟩
    rw [if_pos h1]
    refine Eq.trans hn ?_
    unfold top
    rw [if_pos h1]
    cases k<;>rfl
   ·refine ⟨0,one l _ 0 hl hp ?_⟩
    rw [if_neg h1]
    unfold top
    rw [if_neg h1]
 unfold md
 unfold start
 simp only [List.length_map]
 by_cases h0:a0.length=0
 ·have e:((a0.length:Int)==0)=true:=by simpa using List.length_eq_zero_iff.1 h0
  refine ⟨0,?_⟩
  rw [e]
  refine aZ (Z54.md [229]) (Z54.an (a0:=[229]) ⟨by decide,fun _ _=>trivial⟩) ?_
  rw [if_pos h0]
 ·have e:((a0.length:Int)==0)=false:=beq_eq_false_iff_ne.2 (by omega)
  obtain ⟨n,hn,_⟩:=key a0.length a0 hg (by omega) (by omega)
  refine ⟨n+1,?_⟩
  rw [e,if_neg h0]
  exact hn
def af:cD 235 aU:=L1 18 pid bY bX live step start mix aE bA (.cons Z54.af (.cons Z84.af .nil)) Tryz.func235
end Z85
namespace Z86
def F (x0 x1:Int):aJ:=(call (Z54.R [[L.int 231],[L.int x0],[L.int x1]]) fun v1=>ret (v1:Int))
def md (a0 a1:Int):Int:=((Z54.md [231,a0,a1]):Int)
def gd (a0 a1:Int):Prop:=True
def R:=RR (p2 gd) (u2 md)
def an {a0 a1}(h:gd a0 a1):R (a0,a1)=some (md a0 a1):=aP (a:=(a0,a1)) h
def aU:=CN [pI,pI] oI RT.dec R
def bA (a0)(a1)(hg:gd a0 a1):F a0 a1=ret (md a0 a1):=by
 unfold F md
 try simp only [SS]
 refine aZ (Z54.md [231,a0,a1]) (rq (Z54.an (a0:=[231,a0,a1]) ⟨(om),fun _ _=>trivial⟩)) ?_
 all_goals exact fz
def af:cD 194 aU:=W2 9 F mix aE bA (.cons Z54.af .nil) Tryz.func194
end Z86
namespace Z87
def F (x0:aB):aJ:=(call (Z82.R x0) fun v1=>(call (Z85.R v1) fun v2=>(call (Z86.R ((x0.length:Int),v2)) fun v3=>ret (v3:Int))))
def md (a0:List ah):Int:=((Z86.md (a0.length:Int) (Z85.md (Z82.md a0))):Int)
def gd (a0:List ah):Prop:=(bM (2^21) (fun y:ah=>ah.Sm (2^21) y) a0)
def R:=RR gd md
def an {a0}(h:gd a0):R (a0.map ah.row)=some (md a0):=aP (a:=a0) h
def aU:=CN [pL 57] oI RT.dec R
def bA (a0)(hg:gd a0):F (a0.map ah.row)=ret (md a0):=by
 unfold gd at hg
 have H0:=hg
 unfold F md
 try simp only [SS]
 refine ct (Z82.an H0) ?_
 try simp only [SS]
 refine ct (Z85.an ⟨(have:=Z82.len a0;have:=(H0).1;om),fun _ _=>trivial⟩) ?_
 refine ct (Z86.an trivial) ?_
 all_goals exact fz
def af:cD 197 aU:=W1 9 F mix aE bA (.cons Z82.af (.cons Z85.af (.cons Z86.af .nil))) Tryz.func197
end Z87
namespace Z88
def F (x0:Int)(x1:aB):aJ:=(call (Z77.R x1) fun v1=>(cond v1 (call (Z87.R x1) fun v2=>ret ((v2==x0):Bool)) bf))
def md (a0:Int)(a1:List ah):Bool:=(cond (Z77.md a1) (((Z87.md a1)==a0):Bool) (false:Bool))
def gd (a0:Int)(a1:List ah):Prop:=(bM (2^21) (fun y:ah=>ah.Sm (2^21) y) a1)
def R:=RR (p2 gd) (u2 md)
def an {a0 a1}(h:gd a0 a1):R (a0,(a1.map ah.row))=some (md a0 a1):=aP (a:=(a0,a1)) h
def aU:=CN [pI,pL 57] oB RT.dec R
def bA (a0)(a1)(hg:gd a0 a1):F a0 (a1.map ah.row)=ret (md a0 a1):=by
 unfold gd at hg
 have H1:=hg
 unfold F md
 try simp only [SS]
 refine ct (Z77.an H1) ?_
 refine av ret (fun c1=>?_) (fun _=>rfl)
 refine ct (Z87.an H1) ?_
 all_goals exact fz
def af:cD 200 aU:=W2 13 F mix aE bA (.cons Z77.af (.cons Z87.af .nil)) Tryz.func200
end Z88
namespace Z89
def F (x0:dN):aJ:=(call (Z74.R x0.aT) fun v1=>(cond v1.2 (cond (v1.1.cu==(x0.bN.length:Int)) (call (Z88.R (v1.1.cW,x0.bN)) fun v2=>ret (v2:Bool)) bf) bf))
def md (a0:aM):Bool:=(cond ((Z74.md a0.aT).2) (cond ((Z74.md a0.aT).1.cu==(a0.bN.length:Int)) ((Z88.md ((Z74.md a0.aT).1.cW) a0.bN):Bool) (false:Bool)) (false:Bool))
def gd (a0:aM):Prop:=(aM.Sm (2^21) a0)
def R:=RR gd md
def an {a0}(h:gd a0):R (aM.r a0)=some (md a0):=aP (a:=a0) h
def aU:=CN [.agg sX] oB RT.dec R
def bA (a0)(hg:gd a0):F (aM.r a0)=ret (md a0):=by
 unfold gd at hg
 have H0:=hg
 unfold F md
 try simp only [SS]
 refine ct (Z74.an H0.1) ?_
 try simp only [SS]
 refine av ret (fun c1=>?_) (fun _=>rfl)
 refine av ret (fun c2=>?_) (fun _=>rfl)
 refine ct (Z88.an H0.2) ?_
 all_goals exact fz
def af:cD 163 aU:=W1 27 F mix aE bA (.cons Z74.af (.cons Z88.af .nil)) Tryz.func163
end Z89
namespace Z90
def F (x0:dN):aJ:=(call (Z74.R x0.aT) fun v1=>(call (Z89.R x0) fun v2=>(cond (!v2) (ret ((-1):Int)) (ret (v1.1.bz:Int)))))
def md (a0:aM):Int:=(cond (!(Z89.md a0)) ((-1):Int) ((Z74.md a0.aT).1.bz:Int))
def gd (a0:aM):Prop:=(aM.Sm (2^21) a0)
def R:=RR gd md
def an {a0}(h:gd a0):R (aM.r a0)=some (md a0):=aP (a:=a0) h
def aU:=CN [.agg sX] oI RT.dec R
def bA (a0)(hg:gd a0):F (aM.r a0)=ret (md a0):=by
 unfold gd at hg
 have H0:=hg
 unfold F md
 try simp only [SS]
 refine ct (Z74.an H0.1) ?_
 try simp only [SS]
 refine ct (Z89.an H0) ?_
 refine av ret (fun _=>rfl) (fun c1=>?_)
 all_goals exact fz
def af:cD 162 aU:=W1 16 F mix aE bA (.cons Z74.af (.cons Z89.af .nil)) Tryz.func162
end Z90
namespace Z91
inductive Pt where
 | p0 (a b:Int) (c:cM)
def pid:Pt->Nat
 | .p0 ..=>2
def bY:Pt->List V
 | .p0 a b c=>[.int .i64 a,.cN 0 0,.int .i64 b]
def bX:Pt->List aV
 | .p0 a b c=>[.box [.sl none 155 c.bI,.int .i64 c.gH]]
def step (J:Pt->aJ):Pt->aJ
 | .p0 a b c=>(cond (decide (b<(c.bI.length:Int))) (m2 b (c.bI.length:Int) (call (Z90.R (dN.at c.bI (toNat b))) fun v1=>(cond (v1==a) (cond (decide (a>=0)) (ret (b:Int)) (J (.p0 a (i64.wrap (b+1)) c))) (J (.p0 a (i64.wrap (b+1)) c))))) (ret ((-1):Int)))
def start (J:Pt->aJ)(x0:cM)(x1:Int):aJ:=J (.p0 x1 0 x0)
def live:Nat->Live:=fun i=>match i with | 2=>[(1,none),(2,none),(5,none)] | _=>[]
def md (a0:au)(a1:Int):Int:=(dD (S:=Unit) (β:=Int) (fun (i1:Nat) (y1:aM) (s3:Unit)=>(cond ((Z90.md y1)==a1) (cond (decide (a1>=0)) (.inr ((i1:Int):Int)) (.inl ())) (.inl ()))) (fun (s3:Unit)=>((-1):Int)) 0 a0.bI ())
def gd (a0:au)(a1:Int):Prop:=(au.Sm (2^21) a0)
def R:=RR (p2 gd) (u2 md)
def an {a0 a1}(h:gd a0 a1):R ((au.r a0),a1)=some (md a0 a1):=aP (a:=(a0,a1)) h
def aU:=CN [.agg AZ,pI] oI RT.dec R
def bA (a0)(a1)(hg:gd a0 a1):∃n,start (iter step n) (au.r a0) a1=ret (md a0 a1):=by
 unfold gd at hg
 have H0:=hg
 unfold start md
 try simp only [SS]
 have Bh2:a0.bI.length<=maxLen:=(by
   have:=(H0).1
   try simp only [maxLen] at *
   omega)
 refine ex_eq (out:=ret) (cV (z:=aM.zero)) ?_
 refine dM (p:=Pt.p0 a1 0 (au.r a0)) fz ?_
 refine ck (pt:=fun (i1:Nat) (s3:Unit)=>Pt.p0 a1 (i1:Int) (au.r a0)) (s:=(():Unit)) (out:=ret) (fun _ _=>True) (fun J i1 s3 h2 hih2=>?_) (fun s3 hih2=>?_) trivial
 ·simp only [step,SS]
  have bb_:=Bh2
  simp only [maxLen] at bb_
  have:=(H0).1
  refine bC.yes (by apply decide_eq_true;omega) ?_
  refine bC.yes aI ?_
  refine bC.yes (aK h2) ?_
  refine cr (Z90.an (bM.getD (z:=aM.zero) H0 h2)) ?_
  refine bC.bif (fun c4=>?_) (fun c4=>?_)
  ·refine bC.bif (fun c5=>?_) (fun c5=>?_)
   ·refine bC.inr ?_
    all_goals exact fz
   ·refine bC.inl trivial ?_
    rw [aH h2 Bh2]
    all_goals exact fz
  ·refine bC.inl trivial ?_
   rw [aH h2 Bh2]
   all_goals exact fz
 ·simp only [step,SS]
  have:=(H0).1
  refine dx (by apply decide_eq_false;omega) ?_
  refine ⟨0,?_⟩
  all_goals exact fz
def af:cD 129 aU:=L2 26 pid bY bX live step start mix aE bA (.cons Z90.af .nil) Tryz.func129
def fa (a0:au)(a1:Int):-1<=md a0 a1/\md a0 a1<(a0.bI.length:Int):=by
 unfold md
 refine gi ?_ _ _
 all_goals
  intro i x s b h
  revert h
  simp only [Bool.cond_eq_ite]
  repeat' split
  all_goals (intro h;first | (cases h;rfl) | cases h)
end Z91
namespace Z92
inductive Pt where
 | p0 (a:aB) (b:aD) (c:Int)
def pid:Pt->Nat
 | .p0 ..=>2
def bY:Pt->List V
 | .p0 a b c=>[.sl none 57 a,.str b,.int .i64 c]
def bX:Pt->List aV
 | .p0 a b c=>[]
def step (J:Pt->aJ):Pt->aJ
 | .p0 a b c=>(cond (decide (c<(a.length:Int))) (m2 c (a.length:Int) (cond ((aY.at a (toNat c)).bw==b) (ret (c:Int)) (J (.p0 a b (i64.wrap (c+1)))))) (ret ((-1):Int)))
def start (J:Pt->aJ)(x0:aB)(x1:aD):aJ:=J (.p0 x0 x1 0)
def live:Nat->Live:=fun i=>match i with | 2=>[(0,none),(1,none),(5,none)] | _=>[]
def md (a0:List ah)(a1:aD):Int:=(dD (S:=Unit) (β:=Int) (fun (i1:Nat) (y1:ah) (s3:Unit)=>(cond (y1.bw==a1) (.inr ((i1:Int):Int)) (.inl ()))) (fun (s3:Unit)=>((-1):Int)) 0 a0 ())
def gd (a0:List ah)(a1:aD):Prop:=(bM (2^21) (fun y:ah=>ah.Sm (2^21) y) a0)
def R:=RR (p2 gd) (u2 md)
def an {a0 a1}(h:gd a0 a1):R ((a0.map ah.row),a1)=some (md a0 a1):=aP (a:=(a0,a1)) h
def aU:=CN [pL 57,pS] oI RT.dec R
def bA (a0)(a1)(hg:gd a0 a1):∃n,start (iter step n) (a0.map ah.row) a1=ret (md a0 a1):=by
 unfold gd at hg
 have H0:=hg
 unfold start md
 try simp only [SS]
 have Bh2:a0.length<=maxLen:=(by
   have:=(H0).1
   try simp only [maxLen] at *
   omega)
 refine ex_eq (out:=ret) (cV (z:=ah.zero)) ?_
 refine dM (p:=Pt.p0 (a0.map ah.row) a1 0) fz ?_
 refine ck (pt:=fun (i1:Nat) (s3:Unit)=>Pt.p0 (a0.map ah.row) a1 (i1:Int)) (s:=(():Unit)) (out:=ret) (fun _ _=>True) (fun J i1 s3 h2 hih2=>?_) (fun s3 hih2=>?_) trivial
 ·simp only [step,SS]
  have bb_:=Bh2
  simp only [maxLen] at bb_
  have:=(H0).1
  refine bC.yes (by apply decide_eq_true;omega) ?_
  refine bC.yes aI ?_
  refine bC.yes (aK h2) ?_
  refine bC.bif (fun c4=>?_) (fun c4=>?_)
  ·refine bC.inr ?_
   all_goals exact fz
  ·refine bC.inl trivial ?_
   rw [aH h2 Bh2]
   all_goals exact fz
 ·simp only [step,SS]
  have:=(H0).1
  refine dx (by apply decide_eq_false;omega) ?_
  refine ⟨0,?_⟩
  all_goals exact fz
def af:cD 164 aU:=L2 20 pid bY bX live step start mix aE bA .nil Tryz.func164
def fa (a0:List ah)(a1:aD):-1<=md a0 a1/\md a0 a1<(a0.length:Int):=by
 unfold md
 refine gi ?_ _ _
 all_goals
  intro i x s b h
  revert h
  simp only [Bool.cond_eq_ite]
  repeat' split
  all_goals (intro h;first | (cases h;rfl) | cases h)
end Z92
namespace Z93
def F (x0:aY):aJ:=(call (Z48.R x0.bK) fun v1=>ret ((⟨x0.bw,x0.bQ,x0.cw,v1⟩:aY):aY))
def md (a0:ah):ah:=a0
def gd (a0:ah):Prop:=(ah.Sm (2^21) a0)
def R:=RR gd md
def an {a0}(h:gd a0):R (ah.r a0)=some (ah.r a0):=aP (a:=a0) h
def aU:=CN [.agg rV] (.agg f57) RT.dec R
def bA (a0)(hg:gd a0):F (ah.r a0)=ret (ah.r (md a0)):=by
 unfold gd at hg
 have H0:=hg
 unfold F md
 try simp only [SS]
 refine ct (Z48.an H0.2) ?_
 try simp only [SS]
 all_goals exact fz
def af:cD 105 aU:=W1 13 F mix aE bA (.cons Z48.af .nil) Tryz.func105
end Z93
namespace Z94
inductive Pt where
 | p0 (a:Int) (b c:aB)
 | p1 (a:Int) (b c:aB)
def pid:Pt->Nat
 | .p0 ..=>5
 | .p1 ..=>5
def bY:Pt->List V
 | .p0 a b c=>[.int .i64 a,.own 0,.sl none 3 b]
 | .p1 a b c=>[.int .i64 a,.own 0,.own 1]
def bX:Pt->List aV
 | .p0 a b c=>[.row 3 c]
 | .p1 a b c=>[.row 3 b,.row 3 c]
def step (J:Pt->aJ):Pt->aJ
 | .p0 a b c=>(cond (decide ((b.length:Int)>1)) (cond (decide ((i64.wrap ((i64.wrap (a+1)) - (i64.wrap (2*(Int.tmod a 2)))))<(b.length:Int))) (cj (decide ((0:Int)<=(i64.wrap ((i64.wrap (a+1)) - (i64.wrap (2*(Int.tmod a 2))))))) (cj (decide ((i64.wrap ((i64.wrap (a+1)) - (i64.wrap (2*(Int.tmod a 2)))))<(b.length:Int))) (cj (eS (((c.length:Int)+1)*8)) (call (Z84.R b) fun v1=>J (.p1 (i64.wrap (Int.tdiv a 2)) (c++[[L.int (jt b (toNat (i64.wrap ((i64.wrap (a+1)) - (i64.wrap (2*(Int.tmod a 2)))))))]]) v1))))) (call (Z84.R b) fun v2=>J (.p1 (i64.wrap (Int.tdiv a 2)) c v2))) (ret (c:aB)))
 | .p1 a b c=>(cond (decide ((c.length:Int)>1)) (cond (decide ((i64.wrap ((i64.wrap (a+1)) - (i64.wrap (2*(Int.tmod a 2)))))<(c.length:Int))) (cj (decide ((0:Int)<=(i64.wrap ((i64.wrap (a+1)) - (i64.wrap (2*(Int.tmod a 2))))))) (cj (decide ((i64.wrap ((i64.wrap (a+1)) - (i64.wrap (2*(Int.tmod a 2)))))<(c.length:Int))) (cj (eS (((b.length:Int)+1)*8)) (call (Z84.R c) fun v1=>J (.p1 (i64.wrap (Int.tdiv a 2)) (b++[[L.int (jt c (toNat (i64.wrap ((i64.wrap (a+1)) - (i64.wrap (2*(Int.tmod a 2)))))))]]) v1))))) (call (Z84.R c) fun v2=>J (.p1 (i64.wrap (Int.tdiv a 2)) b v2))) (ret (b:aB)))
def start (J:Pt->aJ)(x0:aB)(x1:Int):aJ:=(call (Z45.R (x1,0,(i64.wrap ((x0.length:Int) - 1)))) fun v1=>(cond (!v1) (ret ([]:aB)) (J (.p0 x1 x0 []))))
def live:Nat->Live:=fun i=>match i with | 5=>[(1,none),(5,some 3),(6,none)] | _=>[]
def vn (i:Nat):Nat:=if i % 2=0 then i+1 else i - 1
def vm (i:Nat)(l c:List Int):List Int:=if vn i<l.length then c++[l.getD (vn i) 0] else c
def yV:Nat->Nat->List Int->List Int->List Int
 | 0,_,_,c=>c
 | k+1,i,l,c=>if l.length>1 then yV k (i / 2) (Z84.up l) (vm i l c) else c
def tE:∀(k i:Nat) (l c:List Int),(yV k i l c).length<=c.length+k
 | 0,_,_,c=>Nat.le_refl _
 | k+1,i,l,c=>by
  unfold yV
  by_cases h:l.length>1
  ·rw [if_pos h]
   have:=tE k (i / 2) (Z84.up l) (vm i l c)
   have h2:(vm i l c).length<=c.length+1:=by unfold vm;split<;>simp
   omega
  ·rw [if_neg h];omega
def half (i:Nat)(h:i<2^40):i64.wrap (Int.tdiv (i:Int) 2)=((i / 2:Nat):Int):=by
 rw [show Int.tdiv (i:Int) 2=((i / 2:Nat):Int) from rfl,wi _ (by omega)]
def Ag (i:Nat)(h:i<2^40):i64.wrap (i64.wrap ((i:Int)+1) - i64.wrap (2*Int.tmod (i:Int) 2))=((vn i:Nat):Int):=by
 rw [show Int.tmod (i:Int) 2=((i % 2:Nat):Int) from rfl,wi ((i:Int)+1) (by omega),wi (2*((i % 2:Nat):Int)) (by omega),wi _ (by omega)]
 unfold vn
 split<;>omega
def md (a0:List Int)(a1:Int):List Int:=bif Z45.md a1 0 (i64.wrap ((a0.length:Int) - 1)) then yV a0.length a1.toNat a0 [] else []
def gd (a0:List Int)(a1:Int):Prop:=bM (2^38) (fun y:Int=>True) a0
def R:=RR (p2 gd) (u2 md)
def an {a0 a1}(h:gd a0 a1):R ((a0.map bq),a1)=some ((md a0 a1).map bq):=aP (a:=(a0,a1)) h
def aU:=CN [pL 3,pI] (oL 3) RT.dec R
def bA (a0)(a1)(hg:gd a0 a1):∃n,start (iter step n) (a0.map bq) a1=ret ((md a0 a1).map bq):=by
 have one:∀(i:Nat) (l c r:List Int) (n:Nat),bM (2^38) (fun y:Int=>True) l->i<2^40->c.length<2^40->(if l.length>1 then iter step n (Pt.p1 ((i / 2:Nat):Int) ((vm i l c).map bq) ((Z84.up l).map bq))=ret (r.map bq) else c=r)->
   step (iter step n) (Pt.p0 (i:Int) (l.map bq) (c.map bq))=ret (r.map bq)/\step (iter step n) (Pt.p1 (i:Int) (c.map bq) (l.map bq))=ret (r.map bq):=by
  intro i l c r n hl hi hc h
  have hs:=Ag i hi
  have hd:=half i hi
  refine ⟨?_,?_⟩
  all_goals
   simp only [step,MM,List.length_map,gL,hs,hd,cz]
   by_cases h1:l.length>1
   ·rw [if_pos h1] at h
    rw [decide_eq_true (show (l.length:Int)>1 by omega),bh]
    by_cases h2:vn i<l.length
    ·rw [vm,if_pos h2,List.map_append] at h
     rw [decide_eq_true (show ((vn i:Nat):Int)<(l.length:Int) by omega),bh,decide_eq_true (show (0:Int)<=((vn i:Nat):Int) by omega),bh,bh,iF (by omega),bh]
     exact aZ ((Z84.up l).map bq) (Z84.an hl) h
    ·rw [vm,if_neg h2] at h
     rw [decide_eq_false (show ¬((vn i:Nat):Int)<(l.length:Int) by omega),bu]
     exact aZ ((Z84.up l).map bq) (Z84.an hl) h
   ·rw [if_neg h1] at h
    rw [decide_eq_false (show ¬(l.length:Int)>1 by omega),bu,h]
 have key:∀(k i:Nat) (l c:List Int),bM (2^38) (fun y:Int=>True) l->l.length<=k->i<2^40->c.length+k<2^40->
   ∃n,step (iter step n) (Pt.p0 (i:Int) (l.map bq) (c.map bq))=ret ((yV k i l c).map bq)/\step (iter step n) (Pt.p1 (i:Int) (c.map bq) (l.map bq))=ret ((yV k i l c).map bq):=by
  intro k
  induction k with
  | zero=>intro i l c hl hk hi hc;exact ⟨0,one i l c _ 0 hl hi (by omega) (by rw [if_neg (by omega)];rfl)⟩
  | succ k ih=>
   intro i l c hl hk hi hc
   unfold yV
   by_cases h1:l.length>1
   ·have hu:=Z84.kf l
    have hl1:=hl.1
    have h2:(vm i l c).length<=c.length+1:=by unfold vm;split<;>simp
    obtain ⟨n,_,hn⟩:=ih (i / 2) (Z84.up l) (vm i l c) ⟨by omega,fun _ _=>trivial⟩ (by omega) (by omega) (by omega)
    rw [if_pos h1]
    exact ⟨n+1,one i l c _ (n+1) hl hi (by omega) (by rw [if_pos h1];exact hn)⟩
   ·rw [if_neg h1]
    exact ⟨0,one i l c _ 0 hl hi (by omega) (by rw [if_neg h1])⟩
 unfold gd at hg
 unfold start md
 simp only [List.length_map]
 have hlen:=hg.1
 cases h:Z45.md a1 0 (i64.wrap ((a0.length:Int) - 1))
 ·exact ⟨0,aZ false (by rw [<-h];exact Z45.an trivial) rfl⟩
 ·have hh:=h
  rw [wi _ (by omega)] at hh
  simp [Z45.md] at hh
  obtain ⟨i,rfl⟩:=Int.eq_ofNat_of_zero_le hh.1
  obtain ⟨n,hn,_⟩:=key a0.length i a0 [] hg (Nat.le_refl _) (by omega) (by simp only [List.length_nil];omega)
  exact ⟨n+1,aZ true (by rw [<-h];exact Z45.an trivial) hn⟩
def af:cD 201 aU:=L2 42 pid bY bX live step start mix aE bA (.cons Z45.af (.cons Z84.af .nil)) Tryz.func201
def len (a0:List Int)(a1:Int):(md a0 a1).length<=a0.length:=by
 unfold md
 cases Z45.md _ 0 _
 ·exact zero_le _
 ·exact le_trans (tE _ _ _ _) (by simp)
end Z94
namespace Z95
def F (x0:aB)(x1:aD):aJ:=(call (Z92.R (x0,x1)) fun v1=>(cond (decide (v1<0)) (ret (((⟨0,[]⟩:bT),false):bT×Bool)) (call (Z82.R x0) fun v2=>(call (Z94.R (v2,v1)) fun v3=>ret (((⟨v1,v3⟩:bT),true):bT×Bool)))))
def md (a0:List ah)(a1:aD):aN×Bool:=(cond (decide ((Z92.md a0 a1)<0)) ((⟨0,[]⟩:aN),false) ((⟨(Z92.md a0 a1),(Z94.md (Z82.md a0) (Z92.md a0 a1))⟩:aN),true))
def gd (a0:List ah)(a1:aD):Prop:=(bM (2^21) (fun y:ah=>ah.Sm (2^21) y) a0)
def R:=RR (p2 gd) (u2 md)
def an {a0 a1}(h:gd a0 a1):R ((a0.map ah.row),a1)=some ((aN.r (md a0 a1).1),(md a0 a1).2):=aP (a:=(a0,a1)) h
def aU:=CN [pL 57,pS] (.iJ [(true,f161),(false,[fB])]) RT.dec R
def bA (a0)(a1)(hg:gd a0 a1):F (a0.map ah.row) a1=ret ((aN.r (md a0 a1).1),(md a0 a1).2):=by
 unfold gd at hg
 have H0:=hg
 unfold F md
 try simp only [SS]
 refine ct (Z92.an H0) ?_
 have fv1_:=Z92.fa a0 a1
 refine av (fun b:aN×Bool=>ret (((aN.r b.1),b.2):bT×Bool)) (fun c1=>?_) (fun c1=>?_)
 ·all_goals exact fz
 ·have dc1:=c1
  try simp only [DC] at dc1
  refine ct (Z82.an H0) ?_
  try simp only [SS]
  refine ct (Z94.an ⟨(have:=Z82.len a0;have:=(H0).1;om),fun _ _=>trivial⟩) ?_
  try simp only [SS]
  all_goals exact fz
def af:cD 165 aU:=W2 19 F mix aE bA (.cons Z92.af (.cons Z82.af (.cons Z94.af .nil))) Tryz.func165
def fL {a0:List ah}{a1:aD}(hg:gd a0 a1):aN.Sm (2^21) ((md a0 a1).1):=by
 unfold gd at hg;unfold md
 cases decide (Z92.md a0 a1<0)
 ·refine ⟨?_,fun _ _=>trivial⟩
  have h:=Z94.len (Z82.md a0) (Z92.md a0 a1)
  rw [Z82.len] at h
  exact le_trans h hg.1
 ·exact bM.nil
def sz (a0:List ah)(a1:aD):aN.size (md a0 a1).1<=a0.length:=by
 unfold aN.size md
 rw [qQ]
 cases decide (Z92.md a0 a1<0)
 ·have:=Z94.len (Z82.md a0) (Z92.md a0 a1)
  rw [Z82.len] at this
  exact this
 ·exact zero_le _
end Z95
namespace Z96
inductive Pt where
 | p0 (a:aB) (b:aD) (c d:Int)
def pid:Pt->Nat
 | .p0 ..=>3
def bY:Pt->List V
 | .p0 a b c d=>[.sl none 57 a,.str b,.int .i64 c,.int .i64 d]
def bX:Pt->List aV
 | .p0 a b c d=>[]
def step (J:Pt->aJ):Pt->aJ
 | .p0 a b c d=>(cond (decide (d<(a.length:Int))) (m2 d (a.length:Int) (call (Z76.R ((aY.at a (toNat d)).bw,b)) fun v1=>(cond (decide (v1<0)) (J (.p0 a b (i64.wrap (c+1)) (i64.wrap (d+1)))) (J (.p0 a b c (i64.wrap (d+1))))))) (ret (c:Int)))
def start (J:Pt->aJ)(x0:aB)(x1:aD):aJ:=J (.p0 x0 x1 0 0)
def live:Nat->Live:=fun i=>match i with | 3=>[(0,none),(1,none),(5,none),(6,none)] | _=>[]
def md (a0:List ah)(a1:aD):Int:=(dQ (S:=Int) (β:=Int) (fun (y1:ah) (s3:Int)=>(cond (decide ((Z76.md (y1.bw) a1)<0)) (.inl (i64.wrap (s3+1))) (.inl s3))) (fun (s3:Int)=>(s3:Int)) a0 0)
def gd (a0:List ah)(a1:aD):Prop:=(bM (2^21) (fun y:ah=>ah.Sm (2^21) y) a0)
def R:=RR (p2 gd) (u2 md)
def an {a0 a1}(h:gd a0 a1):R ((a0.map ah.row),a1)=some (md a0 a1):=aP (a:=(a0,a1)) h
def aU:=CN [pL 57,pS] oI RT.dec R
def bA (a0)(a1)(hg:gd a0 a1):∃n,start (iter step n) (a0.map ah.row) a1=ret (md a0 a1):=by
 unfold gd at hg
 have H0:=hg
 unfold start md
 try simp only [SS]
 have Bh2:a0.length<=maxLen:=(by
   have:=(H0).1
   try simp only [maxLen] at *
   omega)
 refine ex_eq (out:=ret) (ep (z:=ah.zero)) ?_
 refine dM (p:=Pt.p0 (a0.map ah.row) a1 0 0) fz ?_
 refine ck (pt:=fun (i1:Nat) (s3:Int)=>Pt.p0 (a0.map ah.row) a1 s3 (i1:Int)) (s:=(0:Int)) (out:=ret) (fun _ _=>True) (fun J i1 s3 h2 hih2=>?_) (fun s3 hih2=>?_) trivial
 ·simp only [step,SS]
  have bb_:=Bh2
  simp only [maxLen] at bb_
  have:=(H0).1
  refine bC.yes (by apply decide_eq_true;omega) ?_
  refine bC.yes aI ?_
  refine bC.yes (aK h2) ?_
  refine cr (Z76.an trivial) ?_
  refine bC.bif (fun c4=>?_) (fun c4=>?_)
  ·refine bC.inl trivial ?_
   rw [aH h2 Bh2]
   all_goals exact fz
  ·refine bC.inl trivial ?_
   rw [aH h2 Bh2]
   all_goals exact fz
 ·simp only [step,SS]
  have:=(H0).1
  refine dx (by apply decide_eq_false;omega) ?_
  refine ⟨0,?_⟩
  all_goals exact fz
def af:cD 204 aU:=L2 24 pid bY bX live step start mix aE bA (.cons Z76.af .nil) Tryz.func204
def fa (a0:List ah)(a1:aD):a0.length<=2^21->0<=md a0 a1/\md a0 a1<=(a0.length:Int):=fun hl=>by
 have key:∀(xs:List ah) (s:Int),0<=s->s+xs.length<=2^22->0<=dQ (S:=Int) (β:=Int) (fun (y1:ah) (s3:Int)=>(cond (decide ((Z76.md (y1.bw) a1)<0)) (.inl (i64.wrap (s3+1))) (.inl s3))) (fun (s3:Int)=>(s3:Int)) xs s/\dQ (S:=Int) (β:=Int) (fun (y1:ah) (s3:Int)=>(cond (decide ((Z76.md (y1.bw) a1)<0)) (.inl (i64.wrap (s3+1))) (.inl s3))) (fun (s3:Int)=>(s3:Int)) xs s<=s+xs.length:=by
  intro xs
  induction xs with
  | nil=>intro s h0 h1;exact ⟨h0,by simp [dQ]⟩
  | cons x xs ih=>
   intro s h0 h1
   simp only [List.length_cons] at h1 ⊢
   unfold dQ
   cases decide (Z76.md x.bw a1<0)
   ·have:=ih s h0 (by omega)
    simp only [bu]
    omega
   ·have:=ih (s+1) (by omega) (by omega)
    simp only [bh]
    rw [wi _ (by omega)]
    omega
 have:=key a0 0 (Int.le_refl _) (by omega)
 unfold md
 omega
end Z96
namespace Z97
def F (x0:aB)(x1:aD):aJ:=(call (Z77.R x0) fun v1=>(cond (!v1) (ret (((⟨0,(⟨(⟨#[]⟩:aD),0,0,[]⟩:aY),(⟨(⟨#[]⟩:aD),0,0,[]⟩:aY),(⟨0,[]⟩:bT),(⟨0,[]⟩:bT)⟩:dO),false):dO×Bool)) (call (Z46.R x1) fun v2=>(cond (!v2) (ret (((⟨0,(⟨(⟨#[]⟩:aD),0,0,[]⟩:aY),(⟨(⟨#[]⟩:aD),0,0,[]⟩:aY),(⟨0,[]⟩:bT),(⟨0,[]⟩:bT)⟩:dO),false):dO×Bool)) (call (Z92.R (x0,x1)) fun v3=>(cond (decide (v3>=0)) (ret (((⟨0,(⟨(⟨#[]⟩:aD),0,0,[]⟩:aY),(⟨(⟨#[]⟩:aD),0,0,[]⟩:aY),(⟨0,[]⟩:bT),(⟨0,[]⟩:bT)⟩:dO),false):dO×Bool)) (call (Z96.R (x0,x1)) fun v4=>(cond (decide (v4>0)) (cj (decide ((0:Int)<=(i64.wrap (v4 - 1)))) (cj (decide ((i64.wrap (v4 - 1))<(x0.length:Int))) (call (Z93.R (aY.at x0 (toNat (i64.wrap (v4 - 1))))) fun v5=>(cj (decide ((0:Int)<=(i64.wrap (v4 - 1)))) (cj (decide ((i64.wrap (v4 - 1))<(x0.length:Int))) (call (Z95.R (x0,(aY.at x0 (toNat (i64.wrap (v4 - 1)))).bw)) fun v6=>(cond (decide (v4<(x0.length:Int))) (m2 v4 (x0.length:Int) (call (Z93.R (aY.at x0 (toNat v4))) fun v7=>(m2 v4 (x0.length:Int) (call (Z95.R (x0,(aY.at x0 (toNat v4)).bw)) fun v8=>ret (((⟨v4,v5,v7,v6.1,v8.1⟩:dO),true):dO×Bool))))) (ret (((⟨v4,v5,(⟨(⟨#[]⟩:aD),0,0,[]⟩:aY),v6.1,(⟨0,[]⟩:bT)⟩:dO),true):dO×Bool))))))))) (cond (decide (v4<(x0.length:Int))) (m2 v4 (x0.length:Int) (call (Z93.R (aY.at x0 (toNat v4))) fun v9=>(m2 v4 (x0.length:Int) (call (Z95.R (x0,(aY.at x0 (toNat v4)).bw)) fun v10=>ret (((⟨v4,(⟨(⟨#[]⟩:aD),0,0,[]⟩:aY),v9,(⟨0,[]⟩:bT),v10.1⟩:dO),true):dO×Bool))))) (ret (((⟨v4,(⟨(⟨#[]⟩:aD),0,0,[]⟩:aY),(⟨(⟨#[]⟩:aD),0,0,[]⟩:aY),(⟨0,[]⟩:bT),(⟨0,[]⟩:bT)⟩:dO),true):dO×Bool)))))))))))
def md (a0:List ah)(a1:aD):bV×Bool:=(cond (!(Z77.md a0)) ((⟨0,(⟨((⟨#[]⟩:aD):aD),0,0,[]⟩:ah),(⟨((⟨#[]⟩:aD):aD),0,0,[]⟩:ah),(⟨0,[]⟩:aN),(⟨0,[]⟩:aN)⟩:bV),false) (cond (!(Z46.md a1)) ((⟨0,(⟨((⟨#[]⟩:aD):aD),0,0,[]⟩:ah),(⟨((⟨#[]⟩:aD):aD),0,0,[]⟩:ah),(⟨0,[]⟩:aN),(⟨0,[]⟩:aN)⟩:bV),false) (cond (decide ((Z92.md a0 a1)>=0)) ((⟨0,(⟨((⟨#[]⟩:aD):aD),0,0,[]⟩:ah),(⟨((⟨#[]⟩:aD):aD),0,0,[]⟩:ah),(⟨0,[]⟩:aN),(⟨0,[]⟩:aN)⟩:bV),false) (cond (decide ((Z96.md a0 a1)>0)) (cond (decide ((Z96.md a0 a1)<(a0.length:Int))) ((⟨(Z96.md a0 a1),(a0.getD (toNat (i64.wrap ((Z96.md a0 a1) - 1))) ah.zero),(a0.getD (toNat (Z96.md a0 a1)) ah.zero),(Z95.md a0 ((a0.getD (toNat (i64.wrap ((Z96.md a0 a1) - 1))) ah.zero).bw)).1,(Z95.md a0 ((a0.getD (toNat (Z96.md a0 a1)) ah.zero).bw)).1⟩:bV),true) ((⟨(Z96.md a0 a1),(a0.getD (toNat (i64.wrap ((Z96.md a0 a1) - 1))) ah.zero),(⟨((⟨#[]⟩:aD):aD),0,0,[]⟩:ah),(Z95.md a0 ((a0.getD (toNat (i64.wrap ((Z96.md a0 a1) - 1))) ah.zero).bw)).1,(⟨0,[]⟩:aN)⟩:bV),true)) (cond (decide ((Z96.md a0 a1)<(a0.length:Int))) ((⟨(Z96.md a0 a1),(⟨((⟨#[]⟩:aD):aD),0,0,[]⟩:ah),(a0.getD (toNat (Z96.md a0 a1)) ah.zero),(⟨0,[]⟩:aN),(Z95.md a0 ((a0.getD (toNat (Z96.md a0 a1)) ah.zero).bw)).1⟩:bV),true) ((⟨(Z96.md a0 a1),(⟨((⟨#[]⟩:aD):aD),0,0,[]⟩:ah),(⟨((⟨#[]⟩:aD):aD),0,0,[]⟩:ah),(⟨0,[]⟩:aN),(⟨0,[]⟩:aN)⟩:bV),true))))))
def gd (a0:List ah)(a1:aD):Prop:=(bM (2^21) (fun y:ah=>ah.Sm (2^21) y) a0)/\(a1.size<=(2^21))
def R:=RR (p2 gd) (u2 md)
def an {a0 a1}(h:gd a0 a1):R ((a0.map ah.row),a1)=some ((bV.r (md a0 a1).1),(md a0 a1).2):=aP (a:=(a0,a1)) h
def aU:=CN [pL 57,pS] (.iJ [(true,f163),(false,[fB])]) RT.dec R
def bA (a0)(a1)(hg:gd a0 a1):F (a0.map ah.row) a1=ret ((bV.r (md a0 a1).1),(md a0 a1).2):=by
 obtain ⟨H0,H1⟩:=hg
 unfold F md
 try simp only [SS]
 refine ct (Z77.an H0) ?_
 refine av (fun b:bV×Bool=>ret (((bV.r b.1),b.2):dO×Bool)) (fun c1=>?_) (fun c1=>?_)
 ·all_goals exact fz
 ·have dc1:=c1
  try simp only [DC] at dc1
  refine ct (Z46.an (le_trans H1 (by decide))) ?_
  refine av (fun b:bV×Bool=>ret (((bV.r b.1),b.2):dO×Bool)) (fun c2=>?_) (fun c2=>?_)
  ·all_goals exact fz
  ·have dc2:=c2
   try simp only [DC] at dc2
   try have tc2:=Z46.tr (by simpa using c2)
   refine ct (Z92.an H0) ?_
   have fv3_:=Z92.fa a0 a1
   refine av (fun b:bV×Bool=>ret (((bV.r b.1),b.2):dO×Bool)) (fun c3=>?_) (fun c3=>?_)
   ·all_goals exact fz
   ·have dc3:=c3
    try simp only [DC] at dc3
    refine ct (Z96.an H0) ?_
    have fv4_:=Z96.fa a0 a1
    refine av (fun b:bV×Bool=>ret (((bV.r b.1),b.2):dO×Bool)) (fun c4=>?_) (fun c4=>?_)
    ·have dc4:=c4
     try simp only [DC] at dc4
     refine ak (have:=(H0).1;dt) ?_
     refine ak (have:=(H0).1;have:=(H0).1;dt) ?_
     refine ct (Z93.an (bM.getD (z:=ah.zero) H0 (by have:=(H0).1;first | assumption | omega | (simp (disch:=omega) only [wi];omega) | (simp;omega)))) ?_
     try simp only [SS]
     refine ak (have:=(H0).1;dt) ?_
     refine ak (have:=(H0).1;have:=(H0).1;dt) ?_
     refine ct (Z95.an H0) ?_
     try simp only [SS]
     refine av (fun b:bV×Bool=>ret (((bV.r b.1),b.2):dO×Bool)) (fun c5=>?_) (fun c5=>?_)
     ·have dc5:=c5
      try simp only [DC] at dc5
      refine ak (have:=(H0).1;dt) ?_
      refine ak (have:=(H0).1;have:=(H0).1;dt) ?_
      refine ct (Z93.an (bM.getD (z:=ah.zero) H0 (by have:=(H0).1;first | assumption | omega | (simp (disch:=omega) only [wi];omega) | (simp;omega)))) ?_
      try simp only [SS]
      refine ak (have:=(H0).1;dt) ?_
      refine ak (have:=(H0).1;have:=(H0).1;dt) ?_
      refine ct (Z95.an H0) ?_
      try simp only [SS]
      all_goals exact fz
     ·all_goals exact fz
    ·have dc4:=c4
     try simp only [DC] at dc4
     refine av (fun b:bV×Bool=>ret (((bV.r b.1),b.2):dO×Bool)) (fun c6=>?_) (fun c6=>?_)
     ·have dc6:=c6
      try simp only [DC] at dc6
      refine ak (have:=(H0).1;dt) ?_
      refine ak (have:=(H0).1;have:=(H0).1;dt) ?_
      refine ct (Z93.an (bM.getD (z:=ah.zero) H0 (by have:=(H0).1;first | assumption | omega | (simp (disch:=omega) only [wi];omega) | (simp;omega)))) ?_
      try simp only [SS]
      refine ak (have:=(H0).1;dt) ?_
      refine ak (have:=(H0).1;have:=(H0).1;dt) ?_
      refine ct (Z95.an H0) ?_
      try simp only [SS]
      all_goals exact fz
     ·all_goals exact fz
def af:cD 166 aU:=W2 71 F mix aE bA (.cons Z77.af (.cons Z46.af (.cons Z92.af (.cons Z96.af (.cons Z93.af (.cons Z95.af .nil)))))) Tryz.func166
def fL {a0:List ah}{a1:aD}(hg:gd a0 a1):bV.Sm (2^21) ((md a0 a1).1):=by
 unfold gd at hg;unfold md
 have ez:ah.Sm (2^21) ⟨⟨#[]⟩,0,0,[]⟩:=⟨zero_le _,bM.nil⟩
 have pz:aN.Sm (2^21) ⟨0,[]⟩:=bM.nil
 have he:∀i,ah.Sm (2^21) (a0.getD i ah.zero):=fun i=>bM.vG hg.1 ez
 have hp:∀x,aN.Sm (2^21) (Z95.md a0 x).1:=fun x=>Z95.fL hg.1
 simp only [Bool.cond_eq_ite]
 repeat' split
 all_goals (refine ⟨?_,?_,?_,?_⟩<;>first | exact he _ | exact hp _ | exact ez | exact pz)
def sz (a0:List ah)(a1:aD):bV.size (md a0 a1).1<=4*dJ (fun y:ah=>ah.size y) a0:=by
 have hl:a0.length<=dJ (fun y:ah=>ah.size y) a0:=Nat.le_add_right _ _
 have he:∀i,ah.size (a0.getD i ah.zero)<=dJ (fun y:ah=>ah.size y) a0:=fun i=>nD (f:=fun y:ah=>ah.size y) (z:=ah.zero) rfl
 have hp:∀x,aN.size (Z95.md a0 x).1<=a0.length:=fun x=>Z95.sz a0 x
 have hd:∀(n:Int) (b a:ah) (l r:aN),bV.size ⟨n,b,a,l,r⟩=ah.size b+ah.size a+aN.size l+aN.size r:=fun _ _ _ _ _=>rfl
 have e0:ah.size ⟨⟨#[]⟩,0,0,[]⟩=0:=rfl
 have p0:aN.size ⟨0,[]⟩=0:=rfl
 have h1:=he (toNat (i64.wrap ((Z96.md a0 a1) - 1)))
 have h2:=he (toNat (Z96.md a0 a1))
 have h3:=hp ((a0.getD (toNat (i64.wrap ((Z96.md a0 a1) - 1))) ah.zero).bw)
 have h4:=hp ((a0.getD (toNat (Z96.md a0 a1)) ah.zero).bw)
 unfold md
 simp only [Bool.cond_eq_ite]
 repeat' split
 all_goals simp only [hd,e0,p0]
 all_goals omega
end Z97
namespace Z98
def F (x0:dN)(x1:aD):aJ:=(call (Z89.R x0) fun v1=>(cond (!v1) (ret ((⟨[],false,(⟨(⟨#[]⟩:aD),0,0,[]⟩:aY),(⟨0,[]⟩:bT),(⟨0,(⟨(⟨#[]⟩:aD),0,0,[]⟩:aY),(⟨(⟨#[]⟩:aD),0,0,[]⟩:aY),(⟨0,[]⟩:bT),(⟨0,[]⟩:bT)⟩:dO)⟩:bk):bk)) (call (Z46.R x1) fun v2=>(cond (!v2) (ret ((⟨[],false,(⟨(⟨#[]⟩:aD),0,0,[]⟩:aY),(⟨0,[]⟩:bT),(⟨0,(⟨(⟨#[]⟩:aD),0,0,[]⟩:aY),(⟨(⟨#[]⟩:aD),0,0,[]⟩:aY),(⟨0,[]⟩:bT),(⟨0,[]⟩:bT)⟩:dO)⟩:bk):bk)) (call (Z42.R x0.aT) fun v3=>(call (Z92.R (x0.bN,x1)) fun v4=>(cond (decide (v4>=0)) (m2 v4 (x0.bN.length:Int) (call (Z93.R (aY.at x0.bN (toNat v4))) fun v5=>(call (Z95.R (x0.bN,x1)) fun v6=>ret ((⟨v3,true,v5,v6.1,(⟨0,(⟨(⟨#[]⟩:aD),0,0,[]⟩:aY),(⟨(⟨#[]⟩:aD),0,0,[]⟩:aY),(⟨0,[]⟩:bT),(⟨0,[]⟩:bT)⟩:dO)⟩:bk):bk)))) (call (Z97.R (x0.bN,x1)) fun v7=>ret ((⟨v3,false,(⟨(⟨#[]⟩:aD),0,0,[]⟩:aY),(⟨0,[]⟩:bT),v7.1⟩:bk):bk)))))))))
def md (a0:aM)(a1:aD):ay:=(cond (!(Z89.md a0)) (⟨[],false,(⟨((⟨#[]⟩:aD):aD),0,0,[]⟩:ah),(⟨0,[]⟩:aN),(⟨0,(⟨((⟨#[]⟩:aD):aD),0,0,[]⟩:ah),(⟨((⟨#[]⟩:aD):aD),0,0,[]⟩:ah),(⟨0,[]⟩:aN),(⟨0,[]⟩:aN)⟩:bV)⟩:ay) (cond (!(Z46.md a1)) (⟨[],false,(⟨((⟨#[]⟩:aD):aD),0,0,[]⟩:ah),(⟨0,[]⟩:aN),(⟨0,(⟨((⟨#[]⟩:aD):aD),0,0,[]⟩:ah),(⟨((⟨#[]⟩:aD):aD),0,0,[]⟩:ah),(⟨0,[]⟩:aN),(⟨0,[]⟩:aN)⟩:bV)⟩:ay) (cond (decide ((Z92.md a0.bN a1)>=0)) (⟨a0.aT,true,(a0.bN.getD (toNat (Z92.md a0.bN a1)) ah.zero),(Z95.md a0.bN a1).1,(⟨0,(⟨((⟨#[]⟩:aD):aD),0,0,[]⟩:ah),(⟨((⟨#[]⟩:aD):aD),0,0,[]⟩:ah),(⟨0,[]⟩:aN),(⟨0,[]⟩:aN)⟩:bV)⟩:ay) (⟨a0.aT,false,(⟨((⟨#[]⟩:aD):aD),0,0,[]⟩:ah),(⟨0,[]⟩:aN),(Z97.md a0.bN a1).1⟩:ay))))
def gd (a0:aM)(a1:aD):Prop:=(aM.Sm (2^21) a0)/\(a1.size<=(2^21))
def R:=RR (p2 gd) (u2 md)
def an {a0 a1}(h:gd a0 a1):R ((aM.r a0),a1)=some (ay.r (md a0 a1)):=aP (a:=(a0,a1)) h
def aU:=CN [.agg sX,pS] (.agg f165) RT.dec R
def bA (a0)(a1)(hg:gd a0 a1):F (aM.r a0) a1=ret (ay.r (md a0 a1)):=by
 obtain ⟨H0,H1⟩:=hg
 unfold F md
 try simp only [SS]
 refine ct (Z89.an H0) ?_
 refine av (fun b:ay=>ret ((ay.r b):bk)) (fun c1=>?_) (fun c1=>?_)
 ·all_goals exact fz
 ·have dc1:=c1
  try simp only [DC] at dc1
  refine ct (Z46.an (le_trans H1 (by decide))) ?_
  refine av (fun b:ay=>ret ((ay.r b):bk)) (fun c2=>?_) (fun c2=>?_)
  ·all_goals exact fz
  ·have dc2:=c2
   try simp only [DC] at dc2
   try have tc2:=Z46.tr (by simpa using c2)
   refine ct (Z42.an H0.1) ?_
   try simp only [SS]
   refine ct (Z92.an H0.2) ?_
   have fv4_:=Z92.fa a0.bN a1
   refine av (fun b:ay=>ret ((ay.r b):bk)) (fun c3=>?_) (fun c3=>?_)
   ·have dc3:=c3
    try simp only [DC] at dc3
    refine ak dt ?_
    refine ak (have:=(H0.2).1;dt) ?_
    refine ct (Z93.an (bM.getD (z:=ah.zero) H0.2 (by first | assumption | omega | (simp (disch:=omega) only [wi];omega) | (simp;omega)))) ?_
    try simp only [SS]
    refine ct (Z95.an H0.2) ?_
    try simp only [SS]
    all_goals exact fz
   ·refine ct (Z97.an ⟨H0.2,H1⟩) ?_
    try simp only [SS]
    all_goals exact fz
def af:cD 130 aU:=W2 52 F mix aE bA (.cons Z89.af (.cons Z46.af (.cons Z42.af (.cons Z92.af (.cons Z93.af (.cons Z95.af (.cons Z97.af .nil))))))) Tryz.func130
def fL {a0:aM}{a1:aD}(hg:gd a0 a1):ay.Sm (2^21) (md a0 a1):=by
 unfold gd at hg;unfold md
 obtain ⟨⟨hc,hl⟩,_⟩:=hg
 have ez:ah.Sm (2^21) ⟨⟨#[]⟩,0,0,[]⟩:=⟨zero_le _,bM.nil⟩
 have pz:aN.Sm (2^21) ⟨0,[]⟩:=bM.nil
 have gz:bV.Sm (2^21) ⟨0,⟨⟨#[]⟩,0,0,[]⟩,⟨⟨#[]⟩,0,0,[]⟩,⟨0,[]⟩,⟨0,[]⟩⟩:=⟨ez,ez,pz,pz⟩
 have he:∀i,ah.Sm (2^21) (a0.bN.getD i ah.zero):=fun i=>bM.vG hl ez
 have hp:∀x,aN.Sm (2^21) (Z95.md a0.bN x).1:=fun x=>Z95.fL hl
 have hga:bV.Sm (2^21) (Z97.md a0.bN a1).1:=Z97.fL ⟨hl,by assumption⟩
 simp only [Bool.cond_eq_ite]
 repeat' split
 all_goals (refine ⟨?_,?_,?_,?_⟩<;>first | exact hc | exact bM.nil | exact he _ | exact hp _ | exact hga | exact ez | exact pz | exact gz)
def sz (a0:aM)(a1:aD):ay.size (md a0 a1)<=6*aM.size a0:=by
 have hz:aM.size a0=dJ (fun y:aa=>aa.size y) a0.aT+dJ (fun y:ah=>ah.size y) a0.bN:=rfl
 have hl:a0.bN.length<=dJ (fun y:ah=>ah.size y) a0.bN:=Nat.le_add_right _ _
 have he:∀i,ah.size (a0.bN.getD i ah.zero)<=dJ (fun y:ah=>ah.size y) a0.bN:=fun i=>nD (f:=fun y:ah=>ah.size y) (z:=ah.zero) rfl
 have hp:=Z95.sz a0.bN a1
 have hg:=Z97.sz a0.bN a1
 have hd:∀(c:List aa) (f:Bool) (e:ah) (p:aN) (g:bV),ay.size ⟨c,f,e,p,g⟩=dJ (fun y:aa=>aa.size y) c+ah.size e+aN.size p+bV.size g:=fun _ _ _ _ _=>rfl
 have e0:ah.size ⟨⟨#[]⟩,0,0,[]⟩=0:=rfl
 have p0:aN.size ⟨0,[]⟩=0:=rfl
 have g0:bV.size ⟨0,⟨⟨#[]⟩,0,0,[]⟩,⟨⟨#[]⟩,0,0,[]⟩,⟨0,[]⟩,⟨0,[]⟩⟩=0:=rfl
 have c0:dJ (fun y:aa=>aa.size y) []=0:=rfl
 have h1:=he (toNat (Z92.md a0.bN a1))
 unfold md
 simp only [Bool.cond_eq_ite]
 repeat' split
 all_goals simp only [hd,e0,p0,g0,c0]
 all_goals omega
end Z98
namespace Z99
def F (x0:cM)(x1:Int)(x2:aD):aJ:=(call (Z91.R (x0,x1)) fun v1=>(cond (decide (v1<0)) (ret ((⟨[],false,(⟨(⟨#[]⟩:aD),0,0,[]⟩:aY),(⟨0,[]⟩:bT),(⟨0,(⟨(⟨#[]⟩:aD),0,0,[]⟩:aY),(⟨(⟨#[]⟩:aD),0,0,[]⟩:aY),(⟨0,[]⟩:bT),(⟨0,[]⟩:bT)⟩:dO)⟩:bk):bk)) (cond (x0.gH==4) (ret ((⟨[],false,(⟨(⟨#[]⟩:aD),0,0,[]⟩:aY),(⟨0,[]⟩:bT),(⟨0,(⟨(⟨#[]⟩:aD),0,0,[]⟩:aY),(⟨(⟨#[]⟩:aD),0,0,[]⟩:aY),(⟨0,[]⟩:bT),(⟨0,[]⟩:bT)⟩:dO)⟩:bk):bk)) (m2 v1 (x0.bI.length:Int) (call (Z98.R ((dN.at x0.bI (toNat v1)),x2)) fun v2=>(cond (x0.gH==1) (ret ((⟨v2.aT,v2.cy,(⟨v2.bp.bw,v2.bp.bQ,(i64.wrap (v2.bp.cw+1)),v2.bp.bK⟩:aY),v2.eE,v2.fU⟩:bk):bk)) (cond (x0.gH==2) (cond (decide ((v2.aT.length:Int)>0)) (cj (decide ((0:Int)<=(i64.wrap ((v2.aT.length:Int) - 1)))) (cj (decide ((i64.wrap ((v2.aT.length:Int) - 1))<=(v2.aT.length:Int))) (ret ((⟨(List.take (toNat (i64.wrap ((v2.aT.length:Int) - 1))) v2.aT),v2.cy,v2.bp,v2.eE,v2.fU⟩:bk):bk)))) (ret (v2:bk))) (cond (x0.gH==3) (ret ((⟨v2.aT,false,(⟨(⟨#[]⟩:aD),0,0,[]⟩:aY),(⟨0,[]⟩:bT),(⟨0,(⟨(⟨#[]⟩:aD),0,0,[]⟩:aY),(⟨(⟨#[]⟩:aD),0,0,[]⟩:aY),(⟨0,[]⟩:bT),(⟨0,[]⟩:bT)⟩:dO)⟩:bk):bk)) (ret (v2:bk))))))))))
def pats:List ga:=[.agg [.sl 155,aC],.rd (.int .i64),.rd (.str)]
def res:RP:=.agg [.fr 141,.rd (.bool),.rd (.str),.rd (.int .i64),.rd (.int .i64),.fr 9,.rd (.int .i64),.fr 3,.rd (.int .i64),.rd (.str),.rd (.int .i64),.rd (.int .i64),.fr 9,.rd (.str),.rd (.int .i64),.rd (.int .i64),.fr 9,.rd (.int .i64),.fr 3,.rd (.int .i64),.fr 3]
def md (a0:au)(a1:Int)(a2:aD):ay:=(cond (decide ((Z91.md a0 a1)<0)) (⟨[],false,(⟨((⟨#[]⟩:aD):aD),0,0,[]⟩:ah),(⟨0,[]⟩:aN),(⟨0,(⟨((⟨#[]⟩:aD):aD),0,0,[]⟩:ah),(⟨((⟨#[]⟩:aD):aD),0,0,[]⟩:ah),(⟨0,[]⟩:aN),(⟨0,[]⟩:aN)⟩:bV)⟩:ay) (cond (a0.gH==4) (⟨[],false,(⟨((⟨#[]⟩:aD):aD),0,0,[]⟩:ah),(⟨0,[]⟩:aN),(⟨0,(⟨((⟨#[]⟩:aD):aD),0,0,[]⟩:ah),(⟨((⟨#[]⟩:aD):aD),0,0,[]⟩:ah),(⟨0,[]⟩:aN),(⟨0,[]⟩:aN)⟩:bV)⟩:ay) (cond (a0.gH==1) (⟨(Z98.md (a0.bI.getD (toNat (Z91.md a0 a1)) aM.zero) a2).aT,(Z98.md (a0.bI.getD (toNat (Z91.md a0 a1)) aM.zero) a2).cy,(⟨(Z98.md (a0.bI.getD (toNat (Z91.md a0 a1)) aM.zero) a2).bp.bw,(Z98.md (a0.bI.getD (toNat (Z91.md a0 a1)) aM.zero) a2).bp.bQ,(i64.wrap ((Z98.md (a0.bI.getD (toNat (Z91.md a0 a1)) aM.zero) a2).bp.cw+1)),(Z98.md (a0.bI.getD (toNat (Z91.md a0 a1)) aM.zero) a2).bp.bK⟩:ah),(Z98.md (a0.bI.getD (toNat (Z91.md a0 a1)) aM.zero) a2).eE,(Z98.md (a0.bI.getD (toNat (Z91.md a0 a1)) aM.zero) a2).fU⟩:ay) (cond (a0.gH==2) (cond (decide (((Z98.md (a0.bI.getD (toNat (Z91.md a0 a1)) aM.zero) a2).aT.length:Int)>0)) (⟨(List.take (toNat (i64.wrap (((Z98.md (a0.bI.getD (toNat (Z91.md a0 a1)) aM.zero) a2).aT.length:Int) - 1))) (Z98.md (a0.bI.getD (toNat (Z91.md a0 a1)) aM.zero) a2).aT),(Z98.md (a0.bI.getD (toNat (Z91.md a0 a1)) aM.zero) a2).cy,(Z98.md (a0.bI.getD (toNat (Z91.md a0 a1)) aM.zero) a2).bp,(Z98.md (a0.bI.getD (toNat (Z91.md a0 a1)) aM.zero) a2).eE,(Z98.md (a0.bI.getD (toNat (Z91.md a0 a1)) aM.zero) a2).fU⟩:ay) (Z98.md (a0.bI.getD (toNat (Z91.md a0 a1)) aM.zero) a2)) (cond (a0.gH==3) (⟨(Z98.md (a0.bI.getD (toNat (Z91.md a0 a1)) aM.zero) a2).aT,false,(⟨((⟨#[]⟩:aD):aD),0,0,[]⟩:ah),(⟨0,[]⟩:aN),(⟨0,(⟨((⟨#[]⟩:aD):aD),0,0,[]⟩:ah),(⟨((⟨#[]⟩:aD):aD),0,0,[]⟩:ah),(⟨0,[]⟩:aN),(⟨0,[]⟩:aN)⟩:bV)⟩:ay) (Z98.md (a0.bI.getD (toNat (Z91.md a0 a1)) aM.zero) a2))))))
def gd (a0:au)(a1:Int)(a2:aD):Prop:=(au.Sm (2^21) a0)/\(a2.size<=(2^21))
def acc (ls:List L):cM×Int×aD:=((cM.dec ls),((aA 2 ls).headD .hole).toInt,((aA 3 ls).headD .hole).toStr)
def R:(cM×Int×aD)->Option bk:=RR (p3 gd) (u3 md)
def an {a0 a1 a2}(h:gd a0 a1 a2):R ((au.r a0),a1,a2)=some (ay.r (md a0 a1 a2)):=aP (a:=(a0,a1,a2)) h
def aU:fR:=CN pats res acc R
def bA (a0:au)(a1:Int)(a2:aD)(hg:gd a0 a1 a2):F (au.r a0) a1 a2=ret ((ay.r (md a0 a1 a2)):bk):=by
 obtain ⟨H0,H2⟩:=hg
 unfold F md
 try simp only [SS]
 refine ct (Z91.an H0) ?_
 have fv1_:=Z91.fa a0 a1
 refine av (fun b:ay=>ret ((ay.r b):bk)) (fun c1=>?_) (fun c1=>?_)
 ·all_goals exact fz
 ·have dc1:=c1
  try simp only [DC] at dc1
  refine av (fun b:ay=>ret ((ay.r b):bk)) (fun c2=>?_) (fun c2=>?_)
  ·all_goals exact fz
  ·have dc2:=c2
   try simp only [DC] at dc2
   refine ak (have:=(H0).1;dt) ?_
   refine ak (have:=(H0).1;have:=(H0).1;dt) ?_
   refine ct (Z98.an ⟨(bM.getD (z:=aM.zero) H0 (by have:=(H0).1;first | assumption | omega | (simp (disch:=omega) only [wi];omega) | (simp;omega))),H2⟩) ?_
   try simp only [SS]
   refine av (fun b:ay=>ret ((ay.r b):bk)) (fun c3=>?_) (fun c3=>?_)
   ·all_goals exact fz
   ·have dc3:=c3
    try simp only [DC] at dc3
    refine av (fun b:ay=>ret ((ay.r b):bk)) (fun c4=>?_) (fun c4=>?_)
    ·have dc4:=c4
     try simp only [DC] at dc4
     refine av (fun b:ay=>ret ((ay.r b):bk)) (fun c5=>?_) (fun c5=>?_)
     ·have dc5:=c5
      try simp only [DC] at dc5
      refine ak (have:=((Z98.fL (a0:=a0.bI.getD (toNat (Z91.md a0 a1)) aM.zero) (a1:=a2) ⟨(bM.getD (z:=aM.zero) H0 (by have:=(H0).1;first | assumption | omega | (simp (disch:=omega) only [wi];omega) | (simp;omega))),H2⟩).1).1;have:=(H0).1;dt) ?_
      refine ak (have:=((Z98.fL (a0:=a0.bI.getD (toNat (Z91.md a0 a1)) aM.zero) (a1:=a2) ⟨(bM.getD (z:=aM.zero) H0 (by have:=(H0).1;first | assumption | omega | (simp (disch:=omega) only [wi];omega) | (simp;omega))),H2⟩).1).1;have:=(H0).1;dt) ?_
      all_goals exact fz
     ·all_goals exact fz
    ·refine av (fun b:ay=>ret ((ay.r b):bk)) (fun c6=>?_) (fun c6=>?_)
     ·all_goals exact fz
     ·all_goals exact fz
def af:cD 106 aU:=VT (live:=fun _=>[]) (nt:=57) (run:=fun _ x=>F x.1 x.2.1 x.2.2) mix aE (.cons Z91.af (.cons Z98.af .nil)) .nil Tryz.func106 (by kernel_rfl) (fun _ _=>by kernel_rfl) (fun _ a _ _ hg=>⟨0,bA a.1 a.2.1 a.2.2 hg⟩)
def fL {a0:au}{a1:Int}{a2:aD}(hg:gd a0 a1 a2):ay.Sm (2^21) (md a0 a1 a2):=by
 unfold gd at hg;unfold md
 obtain ⟨hs,hl⟩:=hg
 have ez:ah.Sm (2^21) ⟨⟨#[]⟩,0,0,[]⟩:=⟨zero_le _,bM.nil⟩
 have pz:aN.Sm (2^21) ⟨0,[]⟩:=bM.nil
 have gz:bV.Sm (2^21) ⟨0,⟨⟨#[]⟩,0,0,[]⟩,⟨⟨#[]⟩,0,0,[]⟩,⟨0,[]⟩,⟨0,[]⟩⟩:=⟨ez,ez,pz,pz⟩
 have zz:aM.Sm (2^21) aM.zero:=⟨bM.nil,bM.nil⟩
 have ha:∀i,ay.Sm (2^21) (Z98.md (a0.bI.getD i aM.zero) a2):=fun i=>Z98.fL ⟨bM.vG hs zz,hl⟩
 have ht:∀i n,bM (2^21) (fun y:aa=>aa.Sm (2^21) y) (List.take n (List.drop 0 (Z98.md (a0.bI.getD i aM.zero) a2).aT)):=fun i n=>⟨le_trans (by simp;omega) (ha i).1.1,fun x hx=>(ha i).1.2 x (List.mem_of_mem_take hx)⟩
 have ht2:∀i n,bM (2^21) (fun y:aa=>aa.Sm (2^21) y) (List.take n (Z98.md (a0.bI.getD i aM.zero) a2).aT):=fun i n=>⟨le_trans (by simp;omega) (ha i).1.1,fun x hx=>(ha i).1.2 x (List.mem_of_mem_take hx)⟩
 simp only [Bool.cond_eq_ite]
 repeat' split
 all_goals first | exact ha _ | (refine ⟨?_,?_,?_,?_⟩<;>first | exact ht _ _ | exact ht2 _ _ | exact bM.nil | exact (ha _).1 | exact (ha _).2.1 | exact (ha _).2.2.1 | exact (ha _).2.2.2 | exact ez | exact pz | exact gz)
def vJ {α:Type}(f:α->Nat):∀(n:Nat) (xs:List α),dJ f (xs.take n)<=dJ f xs
 | 0,xs=>by simp [dJ]
 | n+1,[]=>by simp [dJ]
 | n+1,x::xs=>by
  have:=vJ f n xs
  unfold dJ at this ⊢
  simp only [List.take_succ_cons,List.length_cons,List.map_cons,List.sum_cons]
  omega
def sz (a0:au)(a1:Int)(a2:aD):ay.size (md a0 a1 a2)<=6*au.size a0:=by
 have hz:aM.size (a0.bI.getD (toNat (Z91.md a0 a1)) aM.zero)<=au.size a0:=nD (f:=fun y:aM=>aM.size y) (xs:=a0.bI) (z:=aM.zero) rfl
 have hA:=Z98.sz (a0.bI.getD (toNat (Z91.md a0 a1)) aM.zero) a2
 have hd:∀(c:List aa) (f:Bool) (e:ah) (p:aN) (g:bV),ay.size ⟨c,f,e,p,g⟩=dJ (fun y:aa=>aa.size y) c+ah.size e+aN.size p+bV.size g:=fun _ _ _ _ _=>rfl
 have he:∀(l:aD) (k v:Int) (p:List aD),ah.size ⟨l,k,v,p⟩=l.size+dJ (fun y:aD=>y.size) p:=fun _ _ _ _=>rfl
 unfold md
 revert hA
 generalize Z98.md (a0.bI.getD (toNat (Z91.md a0 a1)) aM.zero) a2=A
 intro hA
 have hA2:ay.size A=dJ (fun y:aa=>aa.size y) A.aT+ah.size A.bp+aN.size A.eE+bV.size A.fU:=rfl
 have hE2:ah.size A.bp=A.bp.bw.size+dJ (fun y:aD=>y.size) A.bp.bK:=rfl
 have ht:=fun n=>vJ (fun y:aa=>aa.size y) n A.aT
 have e0:ah.size ⟨⟨#[]⟩,0,0,[]⟩=0:=rfl
 have p0:aN.size ⟨0,[]⟩=0:=rfl
 have g0:bV.size ⟨0,⟨⟨#[]⟩,0,0,[]⟩,⟨⟨#[]⟩,0,0,[]⟩,⟨0,[]⟩,⟨0,[]⟩⟩=0:=rfl
 have c0:dJ (fun y:aa=>aa.size y) []=0:=rfl
 have ht1:=ht (toNat (i64.wrap ((A.aT.length:Int) - 1)))
 simp only [Bool.cond_eq_ite]
 repeat' split
 all_goals first
  | omega
  | (simp only [hd,e0,p0,g0,c0];omega)
  | (simp only [hd,he];omega)
end Z99
namespace Z100
inductive Pt where
 | p0 (a:aB) (b:Int) (c:aD) (d:Int) (e:aB)
def pid:Pt->Nat
 | .p0 ..=>3
def bY:Pt->List V
 | .p0 a b c d e=>[.sl none 88 a,.int .i64 b,.str c,.own 0,.int .i64 d]
def bX:Pt->List aV
 | .p0 a b c d e=>[.row 165 e]
def step (J:Pt->aJ):Pt->aJ
 | .p0 a b c d e=>(cond (decide (d<(a.length:Int))) (cond (decide (d<4)) (m2 d (a.length:Int) (call (Z99.R ((cM.at a (toNat d)),b,c)) fun v1=>(cj (eS (((e.length:Int)+1)*304)) (J (.p0 a b c (i64.wrap (d+1)) (e++[(bk.enc v1)])))))) (ret (e:aB))) (ret (e:aB)))
def start (J:Pt->aJ)(x0:aB)(x1:Int)(x2:aD):aJ:=J (.p0 x0 x1 x2 0 [])
def live:Nat->Live:=fun i=>match i with | 3=>[(0,none),(1,none),(2,none),(7,some 165),(8,none)] | _=>[]
def md (a0:List au)(a1:Int)(a2:aD):List ay:=(dD (S:=List ay) (β:=List ay) (fun (i1:Nat) (y1:au) (s3:List ay)=>(cond (decide ((i1:Int)<4)) (.inl (s3++[(Z99.md y1 a1 a2)])) (.inr s3))) (fun (s3:List ay)=>s3) 0 a0 [])
def gd (a0:List au)(a1:Int)(a2:aD):Prop:=(bM (2^21) (fun y:au=>au.Sm (2^21) y) a0)/\(a2.size<=(2^21))
def R:=RR (p3 gd) (u3 md)
def an {a0 a1 a2}(h:gd a0 a1 a2):R ((a0.map au.row),a1,a2)=some ((md a0 a1 a2).map ay.row):=aP (a:=(a0,a1,a2)) h
def aU:=CN [pL 88,pI,pS] (oL 165) RT.dec R
def bA (a0)(a1)(a2)(hg:gd a0 a1 a2):∃n,start (iter step n) (a0.map au.row) a1 a2=ret ((md a0 a1 a2).map ay.row):=by
 obtain ⟨H0,H2⟩:=hg
 unfold start md
 try simp only [SS]
 have Bh2:a0.length<=maxLen:=(by
   have:=(H0).1
   try simp only [maxLen] at *
   omega)
 refine ex_eq (out:=(fun b:List ay=>ret ((b.map ay.row):aB))) (cV (z:=au.zero)) ?_
 refine dM (p:=Pt.p0 (a0.map au.row) a1 a2 0 ([].map ay.row)) fz ?_
 refine ck (pt:=fun (i1:Nat) (s3:List ay)=>Pt.p0 (a0.map au.row) a1 a2 (i1:Int) (s3.map ay.row)) (s:=([]:List ay)) (out:=(fun b:List ay=>ret ((b.map ay.row):aB))) (fun (i1:Nat) (s3:List ay)=>s3.length<=([]:List Int).length+1*i1) (fun J i1 s3 h2 hih2=>?_) (fun s3 hih2=>?_) (by simp)
 ·simp only [step,SS]
  have gr_:=hih2
  try simp only [LN] at gr_
  have bb_:=Bh2
  simp only [maxLen] at bb_
  have:=(H0).1
  refine bC.yes (by apply decide_eq_true;omega) ?_
  refine bC.bif (fun c4=>?_) (fun c4=>?_)
  ·have dc4:=c4
   try simp only [DC] at dc4
   refine bC.yes aI ?_
   refine bC.yes (aK h2) ?_
   refine cr (Z99.an ⟨(bM.getD (z:=au.zero) H0 h2),H2⟩) ?_
   try simp only [SS]
   refine bC.yes lm ?_
   refine bC.inl (by
     have g_:=hih2
     try simp only [LN] at g_ ⊢
     first | omega | (simp;done) | (simp;omega)) ?_
   rw [aH h2 Bh2]
   all_goals exact fz
  ·refine bC.inr ?_
   all_goals exact fz
 ·simp only [step,SS]
  have gr_:=hih2
  try simp only [LN] at gr_
  have:=(H0).1
  refine dx (by apply decide_eq_false;omega) ?_
  refine ⟨0,?_⟩
  all_goals exact fz
def af:cD 65 aU:=L3 31 pid bY bX live step start mix aE bA (.cons Z99.af .nil) Tryz.func65
def pO (a0:List au)(a1:Int)(a2:aD):md a0 a1 a2=(a0.take 4).map (fun y=>Z99.md y a1 a2):=by
 have key:∀(xs:List au) (i:Nat) (s:List ay),i<=4->dD (S:=List ay) (β:=List ay) (fun (i1:Nat) (y1:au) (s3:List ay)=>(cond (decide ((i1:Int)<4)) (.inl (s3++[(Z99.md y1 a1 a2)])) (.inr s3))) (fun (s3:List ay)=>s3) i xs s=s++(xs.take (4 - i)).map (fun y=>Z99.md y a1 a2):=by
  intro xs
  induction xs with
  | nil=>intro i s _;simp [dD]
  | cons x xs ih=>
   intro i s hi
   unfold dD
   by_cases h:i<4
   ·rw [decide_eq_true (by omega)]
    simp only [bh]
    rw [ih (i+1) _ (by omega),show 4 - i=(4 - (i+1))+1 by omega]
    simp
   ·rw [decide_eq_false (by omega),show 4 - i=0 by omega]
    simp
 exact (key a0 0 [] (by omega)).trans (by simp)
def fL {a0:List au}{a1:Int}{a2:aD}(hg:gd a0 a1 a2):bM (2^21) (fun y:ay=>ay.Sm (2^21) y) (md a0 a1 a2):=by
 unfold gd at hg
 rw [pO]
 exact (bM.take hg.1).map fun x hx=>Z99.fL ⟨hx,hg.2⟩
def BK (a0:List au)(a1:Int)(a2:aD):(md a0 a1 a2).length<=4:=by
 rw [pO,List.length_map]
 exact le_trans (List.length_take_le _ _) (Nat.le_refl _)
def sz (a0:List au)(a1:Int)(a2:aD):dJ (fun y:ay=>ay.size y) (md a0 a1 a2)<=6*dJ (fun y:au=>au.size y) a0:=by
 rw [pO]
 have key:∀xs:List au,dJ (fun y:ay=>ay.size y) (xs.map (fun y=>Z99.md y a1 a2))<=6*dJ (fun y:au=>au.size y) xs:=by
  intro xs
  induction xs with
  | nil=>exact zero_le _
  | cons x xs ih=>
   have h:=Z99.sz x a1 a2
   unfold dJ at ih ⊢
   simp only [List.map_cons,List.length_cons,List.sum_cons,List.length_map] at ih ⊢
   omega
 exact le_trans (key _) (Nat.mul_le_mul_left _ (Z99.vJ _ _ _))
end Z100
namespace Z101
inductive Pt where
 | p0 (a b:Int) (c:bn)
def pid:Pt->Nat
 | .p0 ..=>2
def bY:Pt->List V
 | .p0 a b c=>[.int .i64 a,.cN 0 0,.int .i64 b]
def bX:Pt->List aV
 | .p0 a b c=>[.box [.sl none 134 c.aG,.sl none 143 c.aW]]
def step (J:Pt->aJ):Pt->aJ
 | .p0 a b c=>(cond (decide (b<(c.aG.length:Int))) (m2 b (c.aG.length:Int) (cond (decide (((oq c.aG (toNat b)).length:Int)>0)) (m2 b (c.aG.length:Int) (cj (decide ((0:Int)<((oq c.aG (toNat b)).length:Int))) (cond ((aR.at (oq c.aG (toNat b)) 0).aq.bz==a) (ret (b:Int)) (J (.p0 a (i64.wrap (b+1)) c))))) (J (.p0 a (i64.wrap (b+1)) c)))) (ret ((-1):Int)))
def start (J:Pt->aJ)(x0:bn)(x1:Int):aJ:=J (.p0 x1 0 x0)
def live:Nat->Live:=fun i=>match i with | 2=>[(1,none),(2,none),(5,none)] | _=>[]
def md (a0:aj)(a1:Int):Int:=(dD (S:=Unit) (β:=Int) (fun (i1:Nat) (y1:List aa) (s3:Unit)=>(cond (decide ((y1.length:Int)>0)) (cond (((y1.getD 0 aa.zero).aq).bz==a1) (.inr ((i1:Int):Int)) (.inl ())) (.inl ()))) (fun (s3:Unit)=>((-1):Int)) 0 a0.aG ())
def gd (a0:aj)(a1:Int):Prop:=(aj.Sm (2^21) a0)
def R:=RR (p2 gd) (u2 md)
def an {a0 a1}(h:gd a0 a1):R ((aj.r a0),a1)=some (md a0 a1):=aP (a:=(a0,a1)) h
def aU:=CN [.agg rT,pI] oI RT.dec R
def bA (a0)(a1)(hg:gd a0 a1):∃n,start (iter step n) (aj.r a0) a1=ret (md a0 a1):=by
 unfold gd at hg
 have H0:=hg
 unfold start md
 try simp only [SS]
 have Bh2:a0.aG.length<=maxLen:=(by
   have:=(H0.1).1
   try simp only [maxLen] at *
   omega)
 refine ex_eq (out:=ret) (cV (z:=[])) ?_
 refine dM (p:=Pt.p0 a1 0 (aj.r a0)) fz ?_
 refine ck (pt:=fun (i1:Nat) (s3:Unit)=>Pt.p0 a1 (i1:Int) (aj.r a0)) (s:=(():Unit)) (out:=ret) (fun _ _=>True) (fun J i1 s3 h2 hih2=>?_) (fun s3 hih2=>?_) trivial
 ·simp only [step,SS]
  have bb_:=Bh2
  simp only [maxLen] at bb_
  have:=(H0.1).1
  refine bC.yes (by apply decide_eq_true;omega) ?_
  refine bC.yes aI ?_
  refine bC.yes (aK h2) ?_
  refine bC.bif (fun c4=>?_) (fun c4=>?_)
  ·have dc4:=c4
   try simp only [DC] at dc4
   refine bC.yes aI ?_
   refine bC.yes (aK h2) ?_
   refine bC.yes (have:=((bM.getD (z:=[]) H0.1 h2)).1;dt) ?_
   refine bC.bif (fun c5=>?_) (fun c5=>?_)
   ·refine bC.inr ?_
    all_goals exact fz
   ·refine bC.inl trivial ?_
    rw [aH h2 Bh2]
    all_goals exact fz
  ·refine bC.inl trivial ?_
   rw [aH h2 Bh2]
   all_goals exact fz
 ·simp only [step,SS]
  have:=(H0.1).1
  refine dx (by apply decide_eq_false;omega) ?_
  refine ⟨0,?_⟩
  all_goals exact fz
def af:cD 124 aU:=L2 34 pid bY bX live step start mix aE bA .nil Tryz.func124
def fa (a0:aj)(a1:Int):-1<=md a0 a1/\md a0 a1<(a0.aG.length:Int):=by
 unfold md
 refine gi ?_ _ _
 all_goals
  intro i x s b h
  revert h
  simp only [Bool.cond_eq_ite]
  repeat' split
  all_goals (intro h;first | (cases h;rfl) | cases h)
end Z101
namespace Z102
def F (x0 x1:cg):aJ:=(call (Z56.R x0) fun v1=>(call (Z56.R x1) fun v2=>(call (Z65.R (v1,v2)) fun v3=>(cond v3 (ret ((x0.bF==x1.bF):Bool)) bf))))
def md (a0 a1:aF):Bool:=(cond (Z65.md (Z56.md a0) (Z56.md a1)) ((a0.bF==a1.bF):Bool) (false:Bool))
def gd (a0 a1:aF):Prop:=(aF.Sm (2^21) a0)/\(aF.Sm (2^21) a1)
def R:=RR (p2 gd) (u2 md)
def an {a0 a1}(h:gd a0 a1):R ((aF.r a0),(aF.r a1))=some (md a0 a1):=aP (a:=(a0,a1)) h
def aU:=CN [.agg fX,.agg fX] oB RT.dec R
def bA (a0)(a1)(hg:gd a0 a1):F (aF.r a0) (aF.r a1)=ret (md a0 a1):=by
 obtain ⟨H0,H1⟩:=hg
 unfold F md
 try simp only [SS]
 refine ct (Z56.an H0) ?_
 try simp only [SS]
 refine ct (Z56.an H1) ?_
 try simp only [SS]
 refine ct (Z65.an ⟨⟨(have:=Z56.len a0;have:=(H0.1).1;have:=(H0.2.1).1;have:=(H0.2.2).1;om),fun _ _=>trivial⟩,⟨(have:=Z56.len a1;have:=(H1.1).1;have:=(H1.2.1).1;have:=(H1.2.2).1;om),fun _ _=>trivial⟩⟩) ?_
 refine av ret (fun c1=>?_) (fun _=>rfl)
 all_goals exact fz
def af:cD 156 aU:=W2 17 F mix aE bA (.cons Z56.af (.cons Z65.af .nil)) Tryz.func156
def md_eq (a0 a1:aF):md a0 a1=dY a0 a1:=by
 unfold md
 simp only [Z65.md_eq,bool_beq]
 rw [Bool.eq_iff_iff]
 constructor
 ·intro h
  cases he:dY (Z56.md a0) (Z56.md a1)<;>rw [he] at h
  ·cases h
  ·exact dh.2 (Z56.inj (dh.1 he))
 ·intro h
  rw [dh] at h
  rw [h,eP,eP];rfl
end Z102
namespace Z103
inductive Pt where
 | p0 (a b:aB) (c:Int)
def pid:Pt->Nat
 | .p0 ..=>4
def bY:Pt->List V
 | .p0 a b c=>[.sl none 141 a,.sl none 141 b,.int .i64 c]
def bX:Pt->List aV
 | .p0 a b c=>[]
def step (J:Pt->aJ):Pt->aJ
 | .p0 a b c=>(cond (decide (c<(a.length:Int))) (m2 c (a.length:Int) (m2 c (b.length:Int) (call (Z102.R ((aR.at a (toNat c)).aq,(aR.at b (toNat c)).aq)) fun v1=>(cond (!v1) bf (J (.p0 a b (i64.wrap (c+1)))))))) eu)
def start (J:Pt->aJ)(x0 x1:aB):aJ:=(cond (decide ((x0.length:Int)>(x1.length:Int))) bf (J (.p0 x0 x1 0)))
def live:Nat->Live:=fun i=>match i with | 4=>[(0,none),(1,none),(5,none)] | _=>[]
def md (a0 a1:List aa):Bool:=(bif (decide ((a0.length:Int)>(a1.length:Int))) then (false:Bool) else (eo (S:=Unit) (β:=Bool) (fun (i2:Nat) (s4:Unit)=>(cond (!(Z102.md ((a0.getD i2 aa.zero).aq) ((a1.getD i2 aa.zero).aq))) (.inr (false:Bool)) (.inl ()))) (fun (s4:Unit)=>(true:Bool)) a0.length 0 ()))
def gd (a0 a1:List aa):Prop:=(bM (2^21) (fun y:aa=>aa.Sm (2^21) y) a0)/\(bM (2^21) (fun y:aa=>aa.Sm (2^21) y) a1)
def R:=RR (p2 gd) (u2 md)
def an {a0 a1}(h:gd a0 a1):R ((a0.map aa.row),(a1.map aa.row))=some (md a0 a1):=aP (a:=(a0,a1)) h
def aU:=CN [pL 141,pL 141] oB RT.dec R
def bA (a0)(a1)(hg:gd a0 a1):∃n,start (iter step n) (a0.map aa.row) (a1.map aa.row)=ret (md a0 a1):=by
 obtain ⟨H0,H1⟩:=hg
 unfold start md
 try simp only [SS]
 refine gR ret (fun _=>⟨0,rfl⟩) (fun c1=>?_)
 have dc1:=c1
 try simp only [DC] at dc1
 have Bh3:a0.length<=maxLen:=(by
   have:=(H0).1
   try simp only [maxLen] at *
   omega)
 refine dM (p:=Pt.p0 (a0.map aa.row) (a1.map aa.row) 0) fz ?_
 refine ck (pt:=fun (i2:Nat) (s4:Unit)=>Pt.p0 (a0.map aa.row) (a1.map aa.row) (i2:Int)) (s:=(():Unit)) (out:=ret) (fun _ _=>True) (fun J i2 s4 h3 hih3=>?_) (fun s4 hih3=>?_) trivial
 ·simp only [step,SS]
  have bb_:=Bh3
  simp only [maxLen] at bb_
  have:=(H0).1
  refine bC.yes (by apply decide_eq_true;omega) ?_
  refine bC.yes aI ?_
  refine bC.yes (aK h3) ?_
  refine bC.yes aI ?_
  refine bC.yes (have:=(H1).1;dt) ?_
  refine cr (Z102.an ⟨(bM.getD (z:=aa.zero) H0 h3).1,(bM.getD (z:=aa.zero) H1 (by first | assumption | omega | (simp (disch:=omega) only [wi];omega) | (simp;omega))).1⟩) ?_
  refine bC.bif (fun _=>bC.inr rfl) (fun c5=>?_)
  refine bC.inl trivial ?_
  rw [aH h3 Bh3]
  all_goals exact fz
 ·simp only [step,SS]
  have:=(H0).1
  refine dx (by apply decide_eq_false;omega) ?_
  refine ⟨0,?_⟩
  all_goals exact fz
def af:cD 155 aU:=L2 29 pid bY bX live step start mix aE bA (.cons Z102.af .nil) Tryz.func155
end Z103
namespace Z104
def F (x0:bn)(x1:aB):aJ:=(call (Z73.R x1) fun v1=>(cond (!v1) (ret (6:Int)) (cj (decide ((0:Int)<(x1.length:Int))) (call (Z101.R (x0,(aR.at x1 0).aq.bz)) fun v2=>(cond (decide (v2<0)) (ret (1:Int)) (m2 v2 (x0.aG.length:Int) (call (Z103.R ((oq x0.aG (toNat v2)),x1)) fun v3=>(m2 v2 (x0.aG.length:Int) (call (Z103.R (x1,(oq x0.aG (toNat v2)))) fun v4=>(cond v3 (cond v4 (ret (2:Int)) (cond v3 (ret (3:Int)) (cond v4 (ret (4:Int)) (ret (5:Int))))) (cond v3 (ret (3:Int)) (cond v4 (ret (4:Int)) (ret (5:Int))))))))))))))
def md (a0:aj)(a1:List aa):Int:=(cond (!(Z73.md a1)) (6:Int) (cond (decide ((Z101.md a0 (((a1.getD 0 aa.zero).aq).bz))<0)) (1:Int) (cond (Z103.md (a0.aG.getD (toNat (Z101.md a0 (((a1.getD 0 aa.zero).aq).bz))) []) a1) (cond (Z103.md a1 (a0.aG.getD (toNat (Z101.md a0 (((a1.getD 0 aa.zero).aq).bz))) [])) (2:Int) (cond (Z103.md (a0.aG.getD (toNat (Z101.md a0 (((a1.getD 0 aa.zero).aq).bz))) []) a1) (3:Int) (cond (Z103.md a1 (a0.aG.getD (toNat (Z101.md a0 (((a1.getD 0 aa.zero).aq).bz))) [])) (4:Int) (5:Int)))) (cond (Z103.md (a0.aG.getD (toNat (Z101.md a0 (((a1.getD 0 aa.zero).aq).bz))) []) a1) (3:Int) (cond (Z103.md a1 (a0.aG.getD (toNat (Z101.md a0 (((a1.getD 0 aa.zero).aq).bz))) [])) (4:Int) (5:Int))))))
def gd (a0:aj)(a1:List aa):Prop:=(aj.Sm (2^21) a0)/\(bM (2^21) (fun y:aa=>aa.Sm (2^21) y) a1)
def R:=RR (p2 gd) (u2 md)
def an {a0 a1}(h:gd a0 a1):R ((aj.r a0),(a1.map aa.row))=some (md a0 a1):=aP (a:=(a0,a1)) h
def aU:=CN [.agg rT,pL 141] oI RT.dec R
def bA (a0)(a1)(hg:gd a0 a1):F (aj.r a0) (a1.map aa.row)=ret (md a0 a1):=by
 obtain ⟨H0,H1⟩:=hg
 unfold F md
 try simp only [SS]
 refine ct (Z73.an H1) ?_
 refine av ret (fun _=>rfl) (fun c1=>?_)
 have dc1:=c1
 try simp only [DC] at dc1
 try have tc1:=Z73.tr (by simpa using c1)
 refine ak (have:=(H1).1;dt) ?_
 refine ct (Z101.an H0) ?_
 have fv2_:=Z101.fa a0 (((a1.getD 0 aa.zero).aq).bz)
 refine av ret (fun _=>rfl) (fun c2=>?_)
 have dc2:=c2
 try simp only [DC] at dc2
 refine ak dt ?_
 refine ak (have:=(H0.1).1;dt) ?_
 refine ct (Z103.an ⟨(bM.getD (z:=[]) H0.1 (by first | assumption | omega | (simp (disch:=omega) only [wi];omega) | (simp;omega))),H1⟩) ?_
 refine ak dt ?_
 refine ak (have:=(H0.1).1;dt) ?_
 refine ct (Z103.an ⟨H1,(bM.getD (z:=[]) H0.1 (by first | assumption | omega | (simp (disch:=omega) only [wi];omega) | (simp;omega)))⟩) ?_
 refine av ret (fun c3=>?_) (fun c3=>?_)
 ·refine av ret (fun _=>rfl) (fun c4=>?_)
  refine av ret (fun _=>rfl) (fun c5=>?_)
  refine av ret (fun _=>rfl) (fun _=>rfl)
 ·refine av ret (fun _=>rfl) (fun c7=>?_)
  refine av ret (fun _=>rfl) (fun _=>rfl)
def af:cD 123 aU:=W2 43 F mix aE bA (.cons Z73.af (.cons Z101.af (.cons Z103.af .nil))) Tryz.func123
def fa (a0:aj)(a1:List aa):(md a0 a1=3->1<=a1.length/\0<=Z101.md a0 (a1.getD 0 aa.zero).aq.bz)/\(md a0 a1=5->1<=a1.length/\0<=Z101.md a0 (a1.getD 0 aa.zero).aq.bz):=by
 unfold md
 cases h:Z73.md a1
 ·exact ⟨fun h=>by simp at h,fun h=>by simp at h⟩
 ·have t:=Z73.tr h
  cases hf:decide (Z101.md a0 ((a1.getD 0 aa.zero).aq.bz)<0)
  ·have:=of_decide_eq_false hf
   exact ⟨fun _=>⟨t.1,by omega⟩,fun _=>⟨t.1,by omega⟩⟩
  ·exact ⟨fun h=>by simp at h,fun h=>by simp at h⟩
end Z104
end Go.DM
end
