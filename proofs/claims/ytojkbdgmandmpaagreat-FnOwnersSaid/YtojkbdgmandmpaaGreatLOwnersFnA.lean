/- What the functions compute that the law reaches, and that the law returns true. Conditions: none. -/
import Derived.Test.YtojkbdgmandmpaaGreatLOwnersTy
import Derived.Test.YtojkbdgmandmpaaGreatProg
import Derived.Lib.AppendZerosOnto
import Derived.Lib.Bytealg
import Derived.Laws.Externs
import Derived.Lib.Walk
import Derived.Lib.Hide
import Derived.Lib.Strings
set_option linter.all false
set_option maxRecDepth 100000
noncomputable section
namespace Go.DM
open Go.Proofs
open Go.IntKind (i64)
open Int (toNat)
open Nat (le_trans zero_le)
abbrev aG:=K.int .i64
abbrev vP:=ret ((-1):Int)
abbrev dO {A B A' B' Z Z':Type}[Im A A'][Im B B'][Im Z Z'](g:A->B->Prop)(m:A->B->Z):=RR (p2 g) (u2 m)
abbrev qE {A B C A' B' C' Z Z':Type}[Im A A'][Im B B'][Im C C'][Im Z Z'](g:A->B->C->Prop)(m:A->B->C->Z):=RR (p3 g) (u3 m)
abbrev DD {A B C D E A' B' C' D' E' Z Z':Type}[Im A A'][Im B B'][Im C C'][Im D D'][Im E E'][Im Z Z'](g:A->B->C->D->E->Prop)(m:A->B->C->D->E->Z):=RR (p5 g) (u5 m)
abbrev bL:=ret (false:Bool)
abbrev oz:=ret (true:Bool)
abbrev QqT (b:Int):Bool:=Nat.beq (toNat b) (toNat b)&&true
def nP (l:List Nat):Live:=l.map fun i=>(i,none)
def kA:List (Nat×Live)->Nat->Live
 | [],_=>[]
 | (k,v)::r,i=>cond (Nat.beq k i) v (kA r i)
section
variable {P:Program} {E:Env} {f1:Nat} {c1:gS} {f2:Nat} {c2:gS} {f3:Nat} {c3:gS} {f4:Nat} {c4:gS} {f5:Nat} {c5:gS} {f6:Nat} {c6:gS} {f7:Nat} {c7:gS}
theorem dR (h1:Valid P E f1 c1):fO P E [(f1,c1)]:=.cons h1 .nil
theorem gD (h1:Valid P E f1 c1)(h2:Valid P E f2 c2):fO P E [(f1,c1),(f2,c2)]:=.cons h1 (dR h2)
theorem pG (h1:Valid P E f1 c1)(h2:Valid P E f2 c2)(h3:Valid P E f3 c3):fO P E [(f1,c1),(f2,c2),(f3,c3)]:=.cons h1 (gD h2 h3)
theorem wL (h1:Valid P E f1 c1)(h2:Valid P E f2 c2)(h3:Valid P E f3 c3)(h4:Valid P E f4 c4):fO P E [(f1,c1),(f2,c2),(f3,c3),(f4,c4)]:=.cons h1 (pG h2 h3 h4)
theorem Cm (h1:Valid P E f1 c1)(h2:Valid P E f2 c2)(h3:Valid P E f3 c3)(h4:Valid P E f4 c4)(h5:Valid P E f5 c5):fO P E [(f1,c1),(f2,c2),(f3,c3),(f4,c4),(f5,c5)]:=.cons h1 (wL h2 h3 h4 h5)
theorem Db (h1:Valid P E f1 c1)(h2:Valid P E f2 c2)(h3:Valid P E f3 c3)(h4:Valid P E f4 c4)(h5:Valid P E f5 c5)(h6:Valid P E f6 c6):fO P E [(f1,c1),(f2,c2),(f3,c3),(f4,c4),(f5,c5),(f6,c6)]:=.cons h1 (Cm h2 h3 h4 h5 h6)
theorem CU (h1:Valid P E f1 c1)(h2:Valid P E f2 c2)(h3:Valid P E f3 c3)(h4:Valid P E f4 c4)(h5:Valid P E f5 c5)(h6:Valid P E f6 c6)(h7:Valid P E f7 c7):fO P E [(f1,c1),(f2,c2),(f3,c3),(f4,c4),(f5,c5),(f6,c6),(f7,c7)]:=.cons h1 (Db h2 h3 h4 h5 h6 h7)
end
def dJ {A A' Z Z':Type}[Im A A'][Im Z Z']{g:A->Prop}{m:A->Z}{a:A}(h:g a):RR (g) (m) (Im.im a)=some (Im.im (m a):Z'):=xZ (a:=(a)) h
def dN {A B A' B' Z Z':Type}[Im A A'][Im B B'][Im Z Z']{g:A->B->Prop}{m:A->B->Z}{a:A}{b:B}(h:g a b):RR (p2 g) (u2 m) ((Im.im a:A'),(Im.im b:B'))=some (Im.im (m a b):Z'):=xZ (a:=(a,b)) h
def qB {A B C A' B' C' Z Z':Type}[Im A A'][Im B B'][Im C C'][Im Z Z']{g:A->B->C->Prop}{m:A->B->C->Z}{a:A}{b:B}{c:C}(h:g a b c):RR (p3 g) (u3 m) ((Im.im a:A'),(Im.im b:B'),(Im.im c:C'))=some (Im.im (m a b c):Z'):=xZ (a:=(a,b,c)) h
def Dn {A B C D E A' B' C' D' E' Z Z':Type}[Im A A'][Im B B'][Im C C'][Im D D'][Im E E'][Im Z Z']{g:A->B->C->D->E->Prop}{m:A->B->C->D->E->Z}{a:A}{b:B}{c:C}{d:D}{e:E}(h:g a b c d e):RR (p5 g) (u5 m) ((Im.im a:A'),(Im.im b:B'),(Im.im c:C'),(Im.im d:D'),(Im.im e:E'))=some (Im.im (m a b c d e):Z'):=xZ (a:=(a,b,c,d,e)) h
abbrev k7:List K:=[aG,aG,.bool,.int .u8]
abbrev f7:List Lf:=[fI,fI,fB,.rd (.int .u8)]
abbrev k8:List K:=[aG,aG,.bool,.int .u8]
abbrev f8:List Lf:=[fI,fI,fB,.rd (.int .u8)]
abbrev sN:List K:=[.str,.int .u64]
abbrev f13:List Lf:=[fS,.rd (.int .u64)]
abbrev sM:List K:=[.str,.int .u64]
abbrev f14:List Lf:=[fS,.rd (.int .u64)]
abbrev Dq:List K:=[.sl 3,aG]
abbrev f30:List Lf:=[.fr 3,fI]
abbrev nR:List K:=[.sl 3,aG]
abbrev f31:List Lf:=[.fr 3,fI]
abbrev D5:List K:=[aG,aG,aG,aG,aG,aG,aG,aG,.sl 3,aG,.sl 3,aG,aG,.sl 3,aG,.bool]
abbrev f34:List Lf:=[fI,fI,fI,fI,fI,fI,fI,fI,.fr 3,fI,.fr 3,fI,fI,.fr 3,fI,fB]
abbrev nQ:List K:=[aG,aG,aG,aG,aG,aG,aG,aG,.sl 3,aG,.sl 3,aG,aG,.sl 3,aG,.bool]
abbrev f35:List Lf:=[fI,fI,fI,fI,fI,fI,fI,fI,.fr 3,fI,.fr 3,fI,fI,.fr 3,fI,fB]
abbrev DY:List K:=[aG,.sl 3,aG,aG]
abbrev f40:List Lf:=[fI,.fr 3,fI,fI]
abbrev DZ:List K:=[aG,.sl 3,aG,aG]
abbrev f41:List Lf:=[fI,.fr 3,fI,fI]
abbrev D1:List K:=[.str,aG,aG,.sl 9]
abbrev f52:List Lf:=[fS,fI,fI,.fr 9]
abbrev C1:List K:=[.str,aG,aG,.sl 9]
abbrev f53:List Lf:=[fS,fI,fI,.fr 9]
abbrev DX:List K:=[aG,.str,aG,aG,.sl 9,.sl 53]
abbrev f55:List Lf:=[fI,fS,fI,fI,.fr 9,.fr 53]
abbrev DW:List K:=[aG,.str,aG,aG,.sl 9,.sl 53]
abbrev f56:List Lf:=[fI,fS,fI,fI,.fr 9,.fr 53]
abbrev D0:List K:=[.sl 24,.sl 185]
abbrev f64:List Lf:=[.fr 24,.fr 185]
abbrev D2:List K:=[.sl 24,.sl 185]
abbrev f65:List Lf:=[.fr 24,.fr 185]
abbrev D7:List K:=[.sl 24,.sl 185,aG,.str,aG,aG,.sl 9,.sl 3,aG]
abbrev f66:List Lf:=[.fr 24,.fr 185,fI,fS,fI,fI,.fr 9,.fr 3,fI]
abbrev DV:List K:=[.sl 24,.sl 185,aG,.str,aG,aG,.sl 9,.sl 3,aG]
abbrev f67:List Lf:=[.fr 24,.fr 185,fI,fS,fI,fI,.fr 9,.fr 3,fI]
abbrev D6:List K:=[aG,aG,aG,aG,aG,aG,aG,aG,.sl 3,aG,.sl 3,aG,aG,.sl 3,aG,.bool,.sl 209]
abbrev f77:List Lf:=[fI,fI,fI,fI,fI,fI,fI,fI,.fr 3,fI,.fr 3,fI,fI,.fr 3,fI,fB,.fr 209]
abbrev zp:List K:=[aG,aG,aG,aG,aG,aG,aG,aG,.sl 3,aG,.sl 3,aG,aG,.sl 3,aG,.bool,.sl 209]
abbrev f78:List Lf:=[fI,fI,fI,fI,fI,fI,fI,fI,.fr 3,fI,.fr 3,fI,fI,.fr 3,fI,fB,.fr 209]
abbrev Dv:List K:=[.sl 9,.str,aG,aG,.sl 9]
abbrev f113:List Lf:=[.fr 9,fS,fI,fI,.fr 9]
abbrev Dg:List K:=[.sl 9,.str,aG,aG,.sl 9]
abbrev f114:List Lf:=[.fr 9,fS,fI,fI,.fr 9]
abbrev DE:List K:=[.sl 5,aG,aG]
abbrev f129:List Lf:=[.fr 5,fI,fI]
abbrev Dk:List K:=[.sl 5,aG,aG]
abbrev f130:List Lf:=[.fr 5,fI,fI]
abbrev DI:List K:=[.sl 78,.sl 53]
abbrev f138:List Lf:=[.fr 78,.fr 53]
abbrev Dt:List K:=[.sl 78,.sl 53]
abbrev f139:List Lf:=[.fr 78,.fr 53]
abbrev Dz:List K:=[.str,aG]
abbrev f143:List Lf:=[fS,fI]
abbrev Di:List K:=[.str,aG]
abbrev f144:List Lf:=[fS,fI]
abbrev DK:List K:=[.sl 139,aG]
abbrev f176:List Lf:=[.fr 139,fI]
abbrev DF:List K:=[.sl 139,aG]
abbrev f177:List Lf:=[.fr 139,fI]
abbrev DL:List K:=[aG,aG,aG,aG,aG,aG,aG,aG,.sl 3,aG,.sl 3,aG,aG,.sl 3,aG,.bool,.sl 209,aG,aG,aG,aG,aG,aG,aG,aG,.sl 3,aG,.sl 3,aG,aG,.sl 3,aG,.bool,.sl 209,aG,aG,aG,aG,aG,aG,aG,aG,.sl 3,aG,.sl 3,aG,aG,.sl 3,aG,.bool,.sl 209]
abbrev f184:List Lf:=[fI,fI,fI,fI,fI,fI,fI,fI,.fr 3,fI,.fr 3,fI,fI,.fr 3,fI,fB,.fr 209,fI,fI,fI,fI,fI,fI,fI,fI,.fr 3,fI,.fr 3,fI,fI,.fr 3,fI,fB,.fr 209,fI,fI,fI,fI,fI,fI,fI,fI,.fr 3,fI,.fr 3,fI,fI,.fr 3,fI,fB,.fr 209]
abbrev DG:List K:=[aG,aG,aG,aG,aG,aG,aG,aG,.sl 3,aG,.sl 3,aG,aG,.sl 3,aG,.bool,.sl 209,aG,aG,aG,aG,aG,aG,aG,aG,.sl 3,aG,.sl 3,aG,aG,.sl 3,aG,.bool,.sl 209,aG,aG,aG,aG,aG,aG,aG,aG,.sl 3,aG,.sl 3,aG,aG,.sl 3,aG,.bool,.sl 209]
abbrev f185:List Lf:=[fI,fI,fI,fI,fI,fI,fI,fI,.fr 3,fI,.fr 3,fI,fI,.fr 3,fI,fB,.fr 209,fI,fI,fI,fI,fI,fI,fI,fI,.fr 3,fI,.fr 3,fI,fI,.fr 3,fI,fB,.fr 209,fI,fI,fI,fI,fI,fI,fI,fI,.fr 3,fI,.fr 3,fI,fI,.fr 3,fI,fB,.fr 209]
abbrev DR:List K:=[.sl 24,.sl 185,.bool,.str,aG,aG,.sl 9,.bool,.sl 3]
abbrev f189:List Lf:=[.fr 24,.fr 185,fB,fS,fI,fI,.fr 9,fB,.fr 3]
abbrev DO:List K:=[.sl 24,.sl 185,.bool,.str,aG,aG,.sl 9,.bool,.sl 3]
abbrev f190:List Lf:=[.fr 24,.fr 185,fB,fS,fI,fI,.fr 9,fB,.fr 3]
abbrev DH:List K:=[aG,aG]
abbrev f208:List Lf:=[fI,fI]
abbrev B3:List K:=[aG,aG]
abbrev f209:List Lf:=[fI,fI]
abbrev DB:List K:=[aG,.sl 3]
abbrev f223:List Lf:=[fI,.fr 3]
abbrev Dh:List K:=[aG,.sl 3]
abbrev f224:List Lf:=[fI,.fr 3]
abbrev DJ:List K:=[aG,.str,aG,aG,.sl 9,.str,aG,aG,.sl 9,aG,.sl 3,aG,.sl 3]
abbrev f225:List Lf:=[fI,fS,fI,fI,.fr 9,fS,fI,fI,.fr 9,fI,.fr 3,fI,.fr 3]
abbrev Dr:List K:=[aG,.str,aG,aG,.sl 9,.str,aG,aG,.sl 9,aG,.sl 3,aG,.sl 3]
abbrev f226:List Lf:=[fI,fS,fI,fI,.fr 9,fS,fI,fI,.fr 9,fI,.fr 3,fI,.fr 3]
abbrev Dx:List K:=[.sl 78,.bool,.str,aG,aG,.sl 9,aG,.sl 3,aG,.str,aG,aG,.sl 9,.str,aG,aG,.sl 9,aG,.sl 3,aG,.sl 3]
abbrev f227:List Lf:=[.fr 78,fB,fS,fI,fI,.fr 9,fI,.fr 3,fI,fS,fI,fI,.fr 9,fS,fI,fI,.fr 9,fI,.fr 3,fI,.fr 3]
abbrev Dy:List K:=[.sl 78,.bool,.str,aG,aG,.sl 9,aG,.sl 3,aG,.str,aG,aG,.sl 9,.str,aG,aG,.sl 9,aG,.sl 3,aG,.sl 3]
abbrev f228:List Lf:=[.fr 78,fB,fS,fI,fI,.fr 9,fI,.fr 3,fI,fS,fI,fI,.fr 9,fS,fI,fI,.fr 9,fI,.fr 3,fI,.fr 3]
def nH:List (Nat×TI):=[
 (2,⟨[aG],false,[],8,false⟩),
 (3,⟨[aG],false,[],8,false⟩),
 (4,⟨[.bool],false,[],1,false⟩),
 (5,⟨[.int .u8],false,[],1,false⟩),
 (6,⟨[.int .u8],false,[],1,false⟩),
 (7,⟨k7,true,[(0,2),(1,3),(2,4),(3,6)],24,false⟩),
 (8,⟨k8,true,[(0,2),(1,3),(2,4),(3,6)],24,false⟩),
 (9,⟨[.str],false,[],16,false⟩),
 (10,⟨[.str],false,[],16,false⟩),
 (11,⟨[.str],false,[],16,false⟩),
 (12,⟨[.int .u64],false,[],8,false⟩),
 (13,⟨sN,true,[(0,9),(1,12)],24,false⟩),
 (14,⟨sM,true,[(0,9),(1,12)],24,false⟩),
 (21,⟨[.int .i32],false,[],4,false⟩),
 (22,⟨[.sl 5],false,[],24,false⟩),
 (24,⟨[.sl 78],false,[],24,false⟩),
 (27,⟨[.sl 41],false,[],24,false⟩),
 (29,⟨[.sl 3],false,[],24,false⟩),
 (30,⟨Dq,true,[(0,29),(1,3)],32,false⟩),
 (31,⟨nR,true,[(0,29),(1,3)],32,false⟩),
 (34,⟨D5,true,[(0,3),(1,3),(2,3),(3,3),(4,3),(5,3),(6,3),(7,3),(8,31),(10,31),(12,3),(13,31),(15,4)],176,false⟩),
 (35,⟨nQ,true,[(0,3),(1,3),(2,3),(3,3),(4,3),(5,3),(6,3),(7,3),(8,31),(10,31),(12,3),(13,31),(15,4)],176,false⟩),
 (40,⟨DY,true,[(0,3),(1,31),(3,3)],48,false⟩),
 (41,⟨DZ,true,[(0,3),(1,31),(3,3)],48,false⟩),
 (47,⟨[.sl 114],false,[],24,false⟩),
 (48,⟨[.sl 67],false,[],24,false⟩),
 (49,⟨[.sl 9],false,[],24,false⟩),
 (52,⟨D1,true,[(0,9),(1,3),(2,3),(3,49)],56,false⟩),
 (53,⟨C1,true,[(0,9),(1,3),(2,3),(3,49)],56,false⟩),
 (54,⟨[.sl 53],false,[],24,false⟩),
 (55,⟨DX,true,[(0,3),(1,53),(5,54)],88,false⟩),
 (56,⟨DW,true,[(0,3),(1,53),(5,54)],88,false⟩),
 (62,⟨[.sl 24],false,[],24,false⟩),
 (63,⟨[.sl 185],false,[],24,false⟩),
 (64,⟨D0,true,[(0,62),(1,63)],48,false⟩),
 (65,⟨D2,true,[(0,62),(1,63)],48,false⟩),
 (66,⟨D7,true,[(0,65),(2,3),(3,53),(7,29),(8,3)],144,false⟩),
 (67,⟨DV,true,[(0,65),(2,3),(3,53),(7,29),(8,3)],144,false⟩),
 (76,⟨[.sl 209],false,[],24,false⟩),
 (77,⟨D6,true,[(0,35),(16,76)],200,false⟩),
 (78,⟨zp,true,[(0,35),(16,76)],200,false⟩),
 (96,⟨[.sl 177],false,[],24,false⟩),
 (97,⟨[.sl 144],false,[],24,false⟩),
 (103,⟨[.sl 29],false,[],24,false⟩),
 (113,⟨Dv,true,[(0,49),(1,53)],80,false⟩),
 (114,⟨Dg,true,[(0,49),(1,53)],80,false⟩),
 (129,⟨DE,true,[(0,22),(1,3),(2,3)],40,false⟩),
 (130,⟨Dk,true,[(0,22),(1,3),(2,3)],40,false⟩),
 (133,⟨[.sl 139],false,[],24,false⟩),
 (138,⟨DI,true,[(0,24),(1,54)],48,false⟩),
 (139,⟨Dt,true,[(0,24),(1,54)],48,false⟩),
 (143,⟨Dz,true,[(0,9),(1,3)],24,false⟩),
 (144,⟨Di,true,[(0,9),(1,3)],24,true⟩),
 (165,⟨[.int .u64],false,[],8,false⟩),
 (176,⟨DK,true,[(0,133),(1,3)],32,false⟩),
 (177,⟨DF,true,[(0,133),(1,3)],32,false⟩),
 (184,⟨DL,true,[(0,78),(17,78),(34,78)],600,false⟩),
 (185,⟨DG,true,[(0,78),(17,78),(34,78)],600,false⟩),
 (189,⟨DR,true,[(0,65),(2,4),(3,53),(7,4),(8,29)],144,false⟩),
 (190,⟨DO,true,[(0,65),(2,4),(3,53),(7,4),(8,29)],144,false⟩),
 (192,⟨[.sl 228],false,[],24,false⟩),
 (208,⟨DH,true,[(0,3),(1,3)],16,false⟩),
 (209,⟨B3,true,[(0,3),(1,3)],16,true⟩),
 (223,⟨DB,true,[(0,3),(1,29)],32,false⟩),
 (224,⟨Dh,true,[(0,3),(1,29)],32,false⟩),
 (225,⟨DJ,true,[(0,3),(1,53),(5,53),(9,224),(11,224)],184,false⟩),
 (226,⟨Dr,true,[(0,3),(1,53),(5,53),(9,224),(11,224)],184,false⟩),
 (227,⟨Dx,true,[(0,24),(1,4),(2,53),(6,224),(8,226)],304,false⟩),
 (228,⟨Dy,true,[(0,24),(1,4),(2,53),(6,224),(8,226)],304,false⟩),
 (273,⟨[.int .u32],false,[],4,false⟩),
 (274,⟨[.int .u8],false,[],1,false⟩),
 (275,⟨[.int .u8],false,[],1,false⟩),
 (278,⟨[.int .i32],false,[],4,false⟩),
 (279,⟨[.int .i32],false,[],4,false⟩)]
abbrev Ev:Env:=cU nH
def aD:eE Tryz.prog nH=true:=by kernel_rfl
def mix:Tryz.prog.follows .mixedOrders=true:=by kernel_rfl
abbrev cZ:=Valid Tryz.prog Ev
namespace Z0
def F (x0:ak):az:=ret ((decide ((x0.length:Int)>1048576)):Bool)
def md (a0:List Int):Bool:=(decide ((a0.length:Int)>1048576))
def gd (a0:List Int):Prop:=True
def R:=RR gd md
def au {a0}(h:gd a0):R (a0.map aQ)=some (md a0):=dJ h
def aN:=CN [pL 5] oB RT.dec R
def bC (a0)(hg:gd a0):F (a0.map aQ)=ret (md a0):=by
 unfold F md
 rw [List.length_map]
def af:cZ 5 aN:=W1 6 F mix aD bC .nil Tryz.func5
end Z0
namespace Z1
inductive Pt where
 | p0 (a:ak) (b c:Int)
def pid:Pt->Nat
 | .p0 ..=>3
def dM:Pt->List V
 | .p0 a b c=>[.sl none 5 a,.int .i64 b,.int .i64 c]
def fk:Pt->List aA
 | .p0 a b c=>[]
def step (J:Pt->az):Pt->az
 | .p0 a b c=>(cond (c<(a.length:Int)) (cond (c<4000) (m2 c (a.length:Int) (J (.p0 a (uh .i64 (i64.wrap ((i64.wrap ((i64.wrap (b*137))+(i64.wrap (ld a (toNat c)))))+11)) 1073741823) (i64.wrap (c+1))))) (ret ((a,0,b):ak×Int×Int))) (ret ((a,0,b):ak×Int×Int)))
def start (J:Pt->az)(x0:ak):az:=J (.p0 x0 (i64.wrap (193017+(x0.length:Int))) 0)
def live:Nat->Live:=kA [(3,nP [0,3,4])]
abbrev bQ:List K:=[.sl 5,aG,aG]
def pats:List eS:=[.rd (.sl 5)]
abbrev E:Env:={ T:=assoc nH,G:=cQ [],nt:=32,M:=dV [],np:=0,mt:=false,I:=fq [] }
def step_eq (I:dL)(p:Pt):dA E live I (pid p) (bN Tryz.f50) (kO (live (pid p)) (dM p) (fk p)) (dI E Tryz.f50 (.tI bQ))=step (fun q=>I (pid q) (dM q) (fk q)) p:=by
 cases p<;>kernel_rfl
def start_eq (I:dL)(ls:List L):gU E live I (bN Tryz.f50) (ew pats ls) (dI E Tryz.f50 (.tI bQ))=start (fun q=>I (pid q) (dM q) (fk q)) (eC ls):=by kernel_rfl
def run_eq (n:Nat)(ls:List L):eg E live Tryz.f50 (.tI bQ) n (ew pats ls)=start (iter step n) (eC ls):=eo (id:=pid) (vs:=dM) (hs:=fk) (step:=step) (start:=fun J=>start J (eC ls)) step_eq (fun I=>start_eq I ls) n
def gd (x0:ak):Prop:=x0.length<=1048576
def post (x0:ak)(y:ak×Int×Int):Prop:=y.1=x0/\CI x0 y.2.1
def wp (x0:ak)(hg:gd x0):∃n,Wp (start (iter step n) x0) (post x0):=by
 unfold gd at hg
 refine ⟨x0.length+2,iR (fun p=>match p with | .p0 a b c=>a=x0/\0<=c/\c<=x0.length) (fun p=>match p with | .p0 a b c=>(x0.length - c).toNat) (fun J p hI hJ=>?_) _ _ ⟨rfl,by omega,by omega⟩ (by show ((x0.length:Int) - 0).toNat<_;omega)⟩
 obtain ⟨a,b,c⟩:=p
 obtain ⟨rfl,h1,h2⟩:=hI
 have hf:∀b:Int,post a (a,0,b):=fun b=>⟨rfl,hg,Int.le_refl _,by show (0:Int)<=a.length;omega⟩
 refine wp_cond (fun c1=>wp_cond (fun c2=>?_) (fun c2=>wp_ret (hf b))) (fun c1=>wp_ret (hf b))
 have c1:=of_decide_eq_true c1
 have e:i64.wrap (c+1)=c+1:=wi _ (by omega)
 refine qm h1 c1 (hJ _ ⟨rfl,?_,?_⟩ ?_)
 ·show 0<=i64.wrap (c+1);omega
 ·show i64.wrap (c+1)<=_;omega
 ·show ((a.length:Int) - i64.wrap (c+1)).toNat<((a.length:Int) - c).toNat;omega
def R:(ak)->Option (ak×Int×Int):=RQ (fun n x=>start (iter step n) x) (fun x=>post x)
def bD {x0:ak}{γ:Type}[RT γ]{k:(ak×Int×Int)->az}{Q:γ->Prop}(hg:gd x0)(hk:∀y,post x0 y->Wp (k y) Q):Wp (call (R x0) k) Q:=cK (wp x0 hg) hk
def acc (ls:List L):ak:=(eC ls)
def aN:xM:=NC bQ pats acc R
def af:sC Tryz.prog Ev 50 aN:=VN (live:=live) (mt:=false) mix aD .nil .nil .nil Tryz.func50 (by kernel_rfl) run_eq
def ic (_:Nat):eR:=AX Ev aN
def aU (n:Nat):cP Tryz.prog Ev n 50 (ic n):=xx af
end Z1
namespace Z2
def F (x0:ak)(x1 x2:Int):az:=(cond (x1<(x0.length:Int)) (m2 x1 (x0.length:Int) (ret ((Hl.mk,(i64.wrap (x1+1)),(i64.wrap ((i64.wrap (x2*6364136223846793005))+1442695040888963407)),(uh .i64 (i64.wrap ((uh .i64 (Br .i64 (Int.fdiv (i64.wrap ((i64.wrap (x2*6364136223846793005))+1442695040888963407)) (2^33)) (Int.fdiv (i64.wrap ((i64.wrap (x2*6364136223846793005))+1442695040888963407)) (2^47))) 255)+(i64.wrap (ld x0 (toNat x1))))) 255)):Hl×Int×Int×Int))) (ret ((Hl.mk,x1,(i64.wrap ((i64.wrap (x2*6364136223846793005))+1442695040888963407)),(uh .i64 (Br .i64 (Int.fdiv (i64.wrap ((i64.wrap (x2*6364136223846793005))+1442695040888963407)) (2^33)) (Int.fdiv (i64.wrap ((i64.wrap (x2*6364136223846793005))+1442695040888963407)) (2^47))) 255)):Hl×Int×Int×Int)))
abbrev bQ:List K:=[.sl 5,aG,aG]
def pats:List (Option eS):=[none]
def res:RP:=.one (.rd (.int .i64))
abbrev E:Env:={ T:=assoc nH,G:=cQ [],nt:=58,M:=dV [],np:=(nC bQ),mt:=false,I:=fq [] }
def run_eq (n:Nat)(ls:List L):eg E (fun _=>[]) Tryz.f99 (.cur bQ res.parts) n (eN bQ pats ls)=F (eC ls) (bU 1 ls) (bU 2 ls):=by kernel_rfl
def gd (x0:ak)(x1 x2:Int):Prop:=CI x0 x1
def post (x0:ak)(x1 x2:Int)(y:Hl×Int×Int×Int):Prop:=CI x0 y.2.1/\0<=y.2.2.2/\y.2.2.2<=255
def wp (x0:ak)(x1 x2:Int)(hg:gd x0 x1 x2):Wp (F x0 x1 x2) (post x0 x1 x2):=by
 obtain ⟨h1,h2,h3⟩:=hg
 unfold F
 refine wp_cond (fun c=>?_) (fun c=>?_)
 ·refine qm h2 (of_decide_eq_true c) (wp_ret ⟨⟨h1,?_,?_⟩,tP _⟩)
  ·have:=of_decide_eq_true c;show 0<=i64.wrap (x1+1);rw [wi _ (by omega)];omega
  ·have:=of_decide_eq_true c;show i64.wrap (x1+1)<=_;rw [wi _ (by omega)];omega
 ·exact wp_ret ⟨⟨h1,h2,h3⟩,tP _⟩
def R:(ak×Int×Int)->Option (Hl×Int×Int×Int):=RQ (fun _ x=>F x.1 x.2.1 x.2.2) (fun x=>post x.1 x.2.1 x.2.2)
def bD {x0:ak}{x1 x2:Int}{γ:Type}[RT γ]{k:(Hl×Int×Int×Int)->az}{Q:γ->Prop}(hg:gd x0 x1 x2)(hk:∀y,post x0 x1 x2 y->Wp (k y) Q):Wp (call (R (x0,x1,x2)) k) Q:=cK ⟨0,wp x0 x1 x2 hg⟩ hk
def acc (ls:List L):ak×Int×Int:=((eC ls),(bU 1 ls),(bU 2 ls))
def aN:gE:=CC bQ pats res acc R
def af:dU Tryz.prog Ev 99 aN:=VC (live:=(fun _=>[])) (mt:=false) mix aD .nil .nil .nil Tryz.func99 (by kernel_rfl) run_eq
def ic (_:Nat):eR:=gO Ev aN
def aU (n:Nat):cP Tryz.prog Ev n 99 (ic n):=cF af
end Z2
namespace Z3
def F (x0:ak)(x1 x2 x3:Int):az:=(cond (x3<=0) (ret ((Hl.mk,x1,x2,0):Hl×Int×Int×Int)) (cond (x3<=256) (call (Z2.R (x0,x1,x2)) fun v1=>(cond (x3=0) none (ret ((Hl.mk,v1.2.1,v1.2.2.1,(Int.tmod v1.2.2.2 x3)):Hl×Int×Int×Int)))) (call (Z2.R (x0,x1,x2)) fun v2=>(call (Z2.R (x0,v2.2.1,v2.2.2.1)) fun v3=>(call (Z2.R (x0,v3.2.1,v3.2.2.1)) fun v4=>(cond (x3=0) none (ret ((Hl.mk,v4.2.1,v4.2.2.1,(Int.tmod (i64.wrap ((i64.wrap ((i64.wrap (v2.2.2.2*65536))+(i64.wrap (v3.2.2.2*256))))+v4.2.2.2)) x3)):Hl×Int×Int×Int))))))))
abbrev bQ:List K:=[.sl 5,aG,aG]
def pats:List (Option eS):=[none,some (.rd (.int .i64))]
def res:RP:=.one (.rd (.int .i64))
abbrev E:Env:={ T:=assoc nH,G:=cQ [],nt:=31,M:=dV [],np:=(nC bQ),mt:=false,I:=fq [(99,Z2.ic (nC bQ))] }
def run_eq (n:Nat)(ls:List L):eg E (fun _=>[]) Tryz.f52 (.cur bQ res.parts) n (eN bQ pats ls)=F (eC ls) (bU 1 ls) (bU 2 ls) (bU 3 ls):=by kernel_rfl
def gd (x0:ak)(x1 x2 x3:Int):Prop:=CI x0 x1
def post (x0:ak)(x1 x2 x3:Int)(y:Hl×Int×Int×Int):Prop:=CI x0 y.2.1/\(x3<=0->y.2.2.2=0)/\(0<x3->0<=y.2.2.2/\y.2.2.2<x3)
def wp (x0:ak)(x1 x2 x3:Int)(hg:gd x0 x1 x2 x3):Wp (F x0 x1 x2 x3) (post x0 x1 x2 x3):=by
 unfold F
 refine wp_cond (fun c=>wp_ret ⟨hg,fun _=>rfl,fun h=>?_⟩) (fun c=>?_)
 ·have:=of_decide_eq_true c;omega
 have c:=of_decide_eq_false c
 refine wp_cond (fun c2=>?_) (fun c2=>?_)
 ·refine Z2.bD hg (fun v ⟨hv,h1,h2⟩=>wp_cond (fun c3=>absurd (of_decide_eq_true c3) (by omega)) (fun c3=>wp_ret ⟨hv,fun h=>absurd h c,fun h=>xP h1 h⟩))
 ·refine Z2.bD hg (fun v ⟨hv,h1,h2⟩=>Z2.bD hv (fun v' ⟨hv',h1',h2'⟩=>Z2.bD hv' (fun w ⟨hw,h1'',h2''⟩=>wp_cond (fun c3=>absurd (of_decide_eq_true c3) (by omega)) (fun c3=>wp_ret ⟨hw,fun h=>absurd h c,fun h=>xP ?_ h⟩))))
  rw [wi (v.2.2.2*65536) (by omega),wi (v'.2.2.2*256) (by omega),wi (v.2.2.2*65536+v'.2.2.2*256) (by omega),wi _ (by omega)]
  omega
def R:(ak×Int×Int×Int)->Option (Hl×Int×Int×Int):=RQ (fun _ x=>F x.1 x.2.1 x.2.2.1 x.2.2.2) (fun x=>post x.1 x.2.1 x.2.2.1 x.2.2.2)
def iN {x0:ak}{x1 x2 x3:Int}(hg:gd x0 x1 x2 x3):∃y,R (x0,x1,x2,x3)=some y/\post x0 x1 x2 x3 y:=ow ⟨0,wp x0 x1 x2 x3 hg⟩
def bD {x0:ak}{x1 x2 x3:Int}{γ:Type}[RT γ]{k:(Hl×Int×Int×Int)->az}{Q:γ->Prop}(hg:gd x0 x1 x2 x3)(hk:∀y,post x0 x1 x2 x3 y->Wp (k y) Q):Wp (call (R (x0,x1,x2,x3)) k) Q:=cK ⟨0,wp x0 x1 x2 x3 hg⟩ hk
def acc (ls:List L):ak×Int×Int×Int:=((eC ls),(bU 1 ls),(bU 2 ls),(bU 3 ls))
def aN:gE:=CC bQ pats res acc R
def af:dU Tryz.prog Ev 52 aN:=VC (live:=(fun _=>[])) (mt:=false) mix aD .nil .nil (.cons (Z2.aU (nC bQ)) .nil) Tryz.func52 (by kernel_rfl) run_eq
def ic (_:Nat):eR:=gO Ev aN
def aU (n:Nat):cP Tryz.prog Ev n 52 (ic n):=cF af
end Z3
namespace Z4
inductive Pt where
 | p0 (a b c d e:Int) (f:ak) (g h:Int) (i:ak)
def pid:Pt->Nat
 | .p0 ..=>5
def dM:Pt->List V
 | .p0 a b c d e f g h i=>[.bB 0 0,.bB 2 0,.int .i64 a,.bB 3 0,.int .i64 b,.int .i64 c,.bB 3 0]
def fk:Pt->List aA
 | .p0 a b c d e f g h i=>[.box [.own 1,.int .i64 d,.int .i64 e],.vw 5 f,.box [.nil,.int .i64 g],.box [.own 4,.int .i64 h],.row 3 i]
def step (J:Pt->az):Pt->az
 | .p0 a b c d e f g h i=>(cond (c<a) (call (Z3.R (f,d,e,3)) fun v1=>(dZ (gy (((i.length:Int)+1)*8)) (J (.p0 a (i64.wrap ((i64.wrap (b+1))+v1.2.2.2)) (i64.wrap (c+1)) v1.2.1 v1.2.2.1 f g h (i++[[L.int (i64.wrap ((i64.wrap (b+1))+v1.2.2.2))]]))))) (call (Z3.R (f,d,e,a)) fun v2=>ret ((Hl.mk,v2.2.1,v2.2.2.1,(⟨i,(i64.wrap (1+v2.2.2.2))⟩:aX)):Hl×Int×Int×aX)))
def start (J:Pt->az)(x0:ak)(x1 x2:Int):az:=(call (Z3.R (x0,x1,x2,3)) fun v1=>(call (Z3.R (x0,v1.2.1,v1.2.2.1,4)) fun v2=>J (.p0 (i64.wrap (1+v1.2.2.2)) v2.2.2.2 0 v2.2.1 v2.2.2.1 x0 0 0 [])))
def live:Nat->Live:=kA [(5,[(0,none),(2,none),(3,none),(4,none),(5,none),(6,none),(4,some 3)])]
abbrev bQ:List K:=[.sl 5,aG,aG]
def pats:List (Option eS):=[none]
def res:RP:=.agg [.fr 3,.rd (.int .i64)]
abbrev E:Env:={ T:=assoc nH,G:=cQ [],nt:=35,M:=dV [],np:=(nC bQ),mt:=false,I:=fq [(52,Z3.ic (nC bQ))] }
def step_eq (I:dL)(p:Pt):dA E live I (pid p) (bN Tryz.f177) (kO (live (pid p)) (dM p) (fk p)) (dI E Tryz.f177 (.cur bQ res.parts))=step (fun q=>I (pid q) (dM q) (fk q)) p:=by
 cases p<;>kernel_rfl
def start_eq (I:dL)(ls:List L):gU E live I (bN Tryz.f177) (eN bQ pats ls) (dI E Tryz.f177 (.cur bQ res.parts))=start (fun q=>I (pid q) (dM q) (fk q)) (eC ls) (bU 1 ls) (bU 2 ls):=by kernel_rfl
def run_eq (n:Nat)(ls:List L):eg E live Tryz.f177 (.cur bQ res.parts) n (eN bQ pats ls)=start (iter step n) (eC ls) (bU 1 ls) (bU 2 ls):=eo (id:=pid) (vs:=dM) (hs:=fk) (step:=step) (start:=fun J=>start J (eC ls) (bU 1 ls) (bU 2 ls)) step_eq (fun I=>start_eq I ls) n
def gd (x0:ak)(x1 x2:Int):Prop:=CI x0 x1
def post (x0:ak)(x1 x2:Int)(y:Hl×Int×Int×aX):Prop:=CI x0 y.2.1/\∃m:aq,y.2.2.2=aq.r m/\aq.Sm 8 m
def wp (x0:ak)(x1 x2:Int)(hg:gd x0 x1 x2):∃n,Wp (start (iter step n) x0 x1 x2) (post x0 x1 x2):=by
 have key:∀a b d e,0<a->a<=3->CI x0 d->∃n,Wp (iter step n (.p0 a b 0 d e x0 0 0 [])) (post x0 x1 x2):=by
  intro a b d e h1 h2 h3
  refine ⟨5,iR (fun p=>match p with | .p0 a b c d e f g h i=>0<a/\a<=3/\0<=c/\c<=a/\CI f d/\f=x0/\∃ms:List Int,i=ms.map aQ/\(ms.length:Int)=c) (fun p=>match p with | .p0 a b c d e f g h i=>(a - c).toNat) (fun J p hI hJ=>?_) _ _ ⟨h1,h2,Int.le_refl _,by omega,h3,rfl,[],rfl,rfl⟩ (by show (a - 0).toNat<5;omega)⟩
  obtain ⟨a,b,c,d,e,f,g,h,i⟩:=p
  obtain ⟨h1,h2,h3,h4,h5,rfl,ms,rfl,h6⟩:=hI
  refine wp_cond (fun c1=>?_) (fun c1=>?_)
  ·have c1:=of_decide_eq_true c1
   have e1:i64.wrap (c+1)=c+1:=wi _ (by omega)
   refine Z3.bD h5 (fun v ⟨hv,_,_⟩=>cY (gK (by rw [List.length_map];omega)) (hJ _ ⟨h1,h2,?_,?_,hv,rfl,ms++[(i64.wrap ((i64.wrap (b+1))+v.2.2.2))],by simp [aQ],?_⟩ ?_))
   ·show 0<=i64.wrap (c+1);omega
   ·show i64.wrap (c+1)<=a;omega
   ·show ((ms++[_]).length:Int)=i64.wrap (c+1);rw [e1];simp;omega
   ·show (a - i64.wrap (c+1)).toNat<(a - c).toNat;omega
  ·refine Z3.bD h5 (fun v ⟨hv,_,_⟩=>wp_ret ⟨hv,⟨ms,_⟩,rfl,?_⟩)
   exact ⟨(show ms.length<=8 by omega),fun _ _=>trivial⟩
 obtain ⟨v,hv,pv⟩:=Z3.iN (x3:=3) hg
 obtain ⟨w,hw,pw⟩:=Z3.iN (x3:=4) pv.1
 obtain ⟨h1,h2⟩:=pv.2.2 (by decide)
 obtain ⟨n,hn⟩:=key (i64.wrap (1+v.2.2.2)) w.2.2.2 w.2.1 w.2.2.1 (by rw [wi _ (by omega)];omega) (by rw [wi _ (by omega)];omega) pw.1
 exact ⟨n,bg hv (bg hw hn)⟩
def R:(ak×Int×Int)->Option (Hl×Int×Int×aX):=RQ (fun n x=>start (iter step n) x.1 x.2.1 x.2.2) (fun x=>post x.1 x.2.1 x.2.2)
def bD {x0:ak}{x1 x2:Int}{γ:Type}[RT γ]{k:(Hl×Int×Int×aX)->az}{Q:γ->Prop}(hg:gd x0 x1 x2)(hk:∀y,post x0 x1 x2 y->Wp (k y) Q):Wp (call (R (x0,x1,x2)) k) Q:=cK (wp x0 x1 x2 hg) hk
def acc (ls:List L):ak×Int×Int:=((eC ls),(bU 1 ls),(bU 2 ls))
def aN:gE:=CC bQ pats res acc R
def af:dU Tryz.prog Ev 177 aN:=VC (live:=live) (mt:=false) mix aD .nil .nil (.cons (Z3.aU (nC bQ)) .nil) Tryz.func177 (by kernel_rfl) run_eq
def ic (_:Nat):eR:=gO Ev aN
def aU (n:Nat):cP Tryz.prog Ev n 177 (ic n):=cF af
end Z4
namespace Z5
def F (x0:ak)(x1 x2:Int)(x3:ak):az:=(call (Z3.R (x0,x1,x2,(x3.length:Int))) fun v1=>(dZ ((0:Int)<=v1.2.2.2) (dZ (v1.2.2.2<(x3.length:Int)) (ret ((Hl.mk,v1.2.1,v1.2.2.1,(AS x3 (toNat v1.2.2.2))):Hl×Int×Int×cE)))))
abbrev bQ:List K:=[.sl 5,aG,aG]
def pats:List (Option eS):=[none,some (.rd (.sl 9))]
def res:RP:=.one (.rd (.str))
abbrev E:Env:={ T:=assoc nH,G:=cQ [],nt:=12,M:=dV [],np:=(nC bQ),mt:=false,I:=fq [(52,Z3.ic (nC bQ))] }
def run_eq (n:Nat)(ls:List L):eg E (fun _=>[]) Tryz.f149 (.cur bQ res.parts) n (eN bQ pats ls)=F (eC ls) (bU 1 ls) (bU 2 ls) (gP 3 ls):=by kernel_rfl
def gd (x0:ak)(x1 x2:Int)(x3:ak):Prop:=CI x0 x1/\0<x3.length
def post (x0:ak)(x1 x2:Int)(x3:ak)(y:Hl×Int×Int×cE):Prop:=CI x0 y.2.1/\∃i,i<x3.length/\y.2.2.2=AS x3 i
def wp (x0:ak)(x1 x2:Int)(x3:ak)(hg:gd x0 x1 x2 x3):Wp (F x0 x1 x2 x3) (post x0 x1 x2 x3):=by
 unfold F
 refine Z3.bD hg.1 (fun v ⟨hv,_,h⟩=>?_)
 obtain ⟨h1,h2⟩:=h (by have:=hg.2;omega)
 exact cY (decide_eq_true h1) (cY (decide_eq_true h2) (wp_ret ⟨hv,_,by omega,rfl⟩))
def R:(ak×Int×Int×ak)->Option (Hl×Int×Int×cE):=RQ (fun _ x=>F x.1 x.2.1 x.2.2.1 x.2.2.2) (fun x=>post x.1 x.2.1 x.2.2.1 x.2.2.2)
def bD {x0:ak}{x1 x2:Int}{x3:ak}{γ:Type}[RT γ]{k:(Hl×Int×Int×cE)->az}{Q:γ->Prop}(hg:gd x0 x1 x2 x3)(hk:∀y,post x0 x1 x2 x3 y->Wp (k y) Q):Wp (call (R (x0,x1,x2,x3)) k) Q:=cK ⟨0,wp x0 x1 x2 x3 hg⟩ hk
def acc (ls:List L):ak×Int×Int×ak:=((eC ls),(bU 1 ls),(bU 2 ls),(gP 3 ls))
def aN:gE:=CC bQ pats res acc R
def af:dU Tryz.prog Ev 149 aN:=VC (live:=(fun _=>[])) (mt:=false) mix aD .nil .nil (.cons (Z3.aU (nC bQ)) .nil) Tryz.func149 (by kernel_rfl) run_eq
def ic (_:Nat):eR:=gO Ev aN
def aU (n:Nat):cP Tryz.prog Ev n 149 (ic n):=cF af
end Z5
namespace Z6
def F (x0:ak)(x1 x2:Int):az:=(call (Z5.R (x0,x1,x2,[[L.str (⟨#[97,110,110]⟩:cE)],[L.str (⟨#[98,111,98]⟩:cE)],[L.str (⟨#[98,97,110,107]⟩:cE)],[L.str (⟨#[115,104,111,112]⟩:cE)],[L.str (⟨#[115,104,48,112]⟩:cE)],[L.str (⟨#[53,104,111,112]⟩:cE)],[L.str (⟨#[109,97,105,108]⟩:cE)],[L.str (⟨#[109,97,45,105,108]⟩:cE)],[L.str (⟨#[97]⟩:cE)]])) fun v1=>ret ((Hl.mk,v1.2.1,v1.2.2.1,v1.2.2.2):Hl×Int×Int×cE))
abbrev bQ:List K:=[.sl 5,aG,aG]
def pats:List (Option eS):=[none]
def res:RP:=.one (.rd (.str))
abbrev E:Env:={ T:=assoc nH,G:=cQ [],nt:=6,M:=dV [],np:=(nC bQ),mt:=false,I:=fq [(149,Z5.ic (nC bQ))] }
def run_eq (n:Nat)(ls:List L):eg E (fun _=>[]) Tryz.f108 (.cur bQ res.parts) n (eN bQ pats ls)=F (eC ls) (bU 1 ls) (bU 2 ls):=by kernel_rfl
def gd (x0:ak)(x1 x2:Int):Prop:=CI x0 x1
def post (x0:ak)(x1 x2:Int)(y:Hl×Int×Int×cE):Prop:=CI x0 y.2.1/\y.2.2.2.size<=16
def wp (x0:ak)(x1 x2:Int)(hg:gd x0 x1 x2):Wp (F x0 x1 x2) (post x0 x1 x2):=by
 unfold F
 refine Z5.bD ⟨hg,by show 0<9;decide⟩ (fun v ⟨hv,i,hi,e⟩=>wp_ret ⟨hv,?_⟩)
 show v.2.2.2.size<=16
 rw [e]
 exact AO rfl hi
def R:(ak×Int×Int)->Option (Hl×Int×Int×cE):=RQ (fun _ x=>F x.1 x.2.1 x.2.2) (fun x=>post x.1 x.2.1 x.2.2)
def bD {x0:ak}{x1 x2:Int}{γ:Type}[RT γ]{k:(Hl×Int×Int×cE)->az}{Q:γ->Prop}(hg:gd x0 x1 x2)(hk:∀y,post x0 x1 x2 y->Wp (k y) Q):Wp (call (R (x0,x1,x2)) k) Q:=cK ⟨0,wp x0 x1 x2 hg⟩ hk
def acc (ls:List L):ak×Int×Int:=((eC ls),(bU 1 ls),(bU 2 ls))
def aN:gE:=CC bQ pats res acc R
def af:dU Tryz.prog Ev 108 aN:=VC (live:=(fun _=>[])) (mt:=false) mix aD .nil .nil (.cons (Z5.aU (nC bQ)) .nil) Tryz.func108 (by kernel_rfl) run_eq
def ic (_:Nat):eR:=gO Ev aN
def aU (n:Nat):cP Tryz.prog Ev n 108 (ic n):=cF af
end Z6
namespace Z7
def F (x0:cE)(x1:Int):az:=ret ((⟨x0,2,x1,[]⟩:bl):bl)
def md (a0:cE)(a1:Int):ah:=(⟨a0,2,a1,[]⟩:ah)
def gd (a0:cE)(a1:Int):Prop:=True
def R:=dO gd md
def au {a0 a1}(h:gd a0 a1):R (a0,a1)=some (ah.r (md a0 a1)):=dN h
def aN:=CN [pS,pI] (.agg f53) RT.dec R
def bC (a0)(a1)(hg:gd a0 a1):F a0 a1=ret (ah.r (md a0 a1)):=by
 unfold F md
 try simp only [SS]
 all_goals exact fz
def af:cZ 109 aN:=W2 8 F mix aD bC .nil Tryz.func109
end Z7
namespace Z8
inductive Pt where
 | p0 (a b c:Int) (d e:ak)
def pid:Pt->Nat
 | .p0 ..=>3
def dM:Pt->List V
 | .p0 a b c d e=>[.bB 0 0,.own 2,.int .i64 a]
def fk:Pt->List aA
 | .p0 a b c d e=>[.box [.own 1,.int .i64 b,.int .i64 c],.vw 5 d,.row 9 e]
def step (J:Pt->az):Pt->az
 | .p0 a b c d e=>(cond (a>0) (call (Z6.R (d,b,c)) fun v1=>(dZ (gy (((e.length:Int)+1)*16)) (J (.p0 (i64.wrap (a - 1)) v1.2.1 v1.2.2.1 d (e++[[L.str v1.2.2.2]]))))) (ret ((Hl.mk,b,c,e):Hl×Int×Int×ak)))
def start (J:Pt->az)(x0:ak)(x1 x2:Int):az:=(call (Z3.R (x0,x1,x2,3)) fun v1=>J (.p0 (i64.wrap (1+v1.2.2.2)) v1.2.1 v1.2.2.1 x0 []))
def live:Nat->Live:=kA [(3,[(0,none),(3,some 9),(4,none)])]
abbrev bQ:List K:=[.sl 5,aG,aG]
def pats:List (Option eS):=[none]
def res:RP:=.one (.fr 9)
abbrev E:Env:={ T:=assoc nH,G:=cQ [],nt:=19,M:=dV [],np:=(nC bQ),mt:=false,I:=fq [(52,Z3.ic (nC bQ)),(108,Z6.ic (nC bQ))] }
def step_eq (I:dL)(p:Pt):dA E live I (pid p) (bN Tryz.f111) (kO (live (pid p)) (dM p) (fk p)) (dI E Tryz.f111 (.cur bQ res.parts))=step (fun q=>I (pid q) (dM q) (fk q)) p:=by
 cases p<;>kernel_rfl
def start_eq (I:dL)(ls:List L):gU E live I (bN Tryz.f111) (eN bQ pats ls) (dI E Tryz.f111 (.cur bQ res.parts))=start (fun q=>I (pid q) (dM q) (fk q)) (eC ls) (bU 1 ls) (bU 2 ls):=by kernel_rfl
def run_eq (n:Nat)(ls:List L):eg E live Tryz.f111 (.cur bQ res.parts) n (eN bQ pats ls)=start (iter step n) (eC ls) (bU 1 ls) (bU 2 ls):=eo (id:=pid) (vs:=dM) (hs:=fk) (step:=step) (start:=fun J=>start J (eC ls) (bU 1 ls) (bU 2 ls)) step_eq (fun I=>start_eq I ls) n
def gd (x0:ak)(x1 x2:Int):Prop:=CI x0 x1
def post (x0:ak)(x1 x2:Int)(y:Hl×Int×Int×ak):Prop:=CI x0 y.2.1/\∃m:List cE,y.2.2.2=m.map iB/\cw 16 (fun y:cE=>y.size<=16) m
def wp (x0:ak)(x1 x2:Int)(hg:gd x0 x1 x2):∃n,Wp (start (iter step n) x0 x1 x2) (post x0 x1 x2):=by
 have key:∀a d e,0<=a->a<=6->CI x0 d->∃n,Wp (iter step n (.p0 a d e x0 [])) (post x0 x1 x2):=by
  intro a d e h1 h2 h3
  refine ⟨8,iR (fun p=>match p with | .p0 a b c d e=>0<=a/\a<=6/\CI d b/\d=x0/\∃ms:List cE,e=ms.map iB/\(ms.length:Int)+a<=6/\∀s∈ms,s.size<=16) (fun p=>match p with | .p0 a b c d e=>a.toNat) (fun J p hI hJ=>?_) _ _ ⟨h1,h2,h3,rfl,[],rfl,by show (0:Int)+a<=6;omega,fun _ h=>(nomatch h)⟩ (by show a.toNat<8;omega)⟩
  obtain ⟨a,b,c,d,e⟩:=p
  obtain ⟨k1,k2,k3,rfl,ms,rfl,h6,h7⟩:=hI
  refine wp_cond (fun c1=>?_) (fun c1=>?_)
  ·have c1:=of_decide_eq_true c1
   have e1:i64.wrap (a - 1)=a - 1:=wi _ (by omega)
   refine Z6.bD k3 (fun v ⟨hv,hs⟩=>cY (gK (by rw [List.length_map];omega)) (hJ _ ⟨?_,?_,hv,rfl,ms++[v.2.2.2],by simp [iB],?_,fun s hm=>?_⟩ ?_))
   ·show 0<=i64.wrap (a - 1);omega
   ·show i64.wrap (a - 1)<=6;omega
   ·show ((ms++[_]).length:Int)+i64.wrap (a - 1)<=6;rw [e1];simp;omega
   ·rcases List.mem_append.1 hm with hm | hm
    ·exact h7 s hm
    ·simp at hm;subst hm;exact hs
   ·show (i64.wrap (a - 1)).toNat<a.toNat;omega
  ·exact wp_ret ⟨k3,ms,rfl,(show ms.length<=16 by omega),h7⟩
 obtain ⟨v,hv,pv⟩:=Z3.iN (x3:=3) hg
 obtain ⟨h1,h2⟩:=pv.2.2 (by decide)
 obtain ⟨n,hn⟩:=key (i64.wrap (1+v.2.2.2)) v.2.1 v.2.2.1 (by rw [wi _ (by omega)];omega) (by rw [wi _ (by omega)];omega) pv.1
 exact ⟨n,bg hv hn⟩
def R:(ak×Int×Int)->Option (Hl×Int×Int×ak):=RQ (fun n x=>start (iter step n) x.1 x.2.1 x.2.2) (fun x=>post x.1 x.2.1 x.2.2)
def bD {x0:ak}{x1 x2:Int}{γ:Type}[RT γ]{k:(Hl×Int×Int×ak)->az}{Q:γ->Prop}(hg:gd x0 x1 x2)(hk:∀y,post x0 x1 x2 y->Wp (k y) Q):Wp (call (R (x0,x1,x2)) k) Q:=cK (wp x0 x1 x2 hg) hk
def acc (ls:List L):ak×Int×Int:=((eC ls),(bU 1 ls),(bU 2 ls))
def aN:gE:=CC bQ pats res acc R
def af:dU Tryz.prog Ev 111 aN:=VC (live:=live) (mt:=false) mix aD .nil .nil (.cons (Z3.aU (nC bQ)) (.cons (Z6.aU (nC bQ)) .nil)) Tryz.func111 (by kernel_rfl) run_eq
def ic (_:Nat):eR:=gO Ev aN
def aU (n:Nat):cP Tryz.prog Ev n 111 (ic n):=cF af
end Z8
namespace Z9
def F (x0:ak):az:=(dZ (gy ((x0.length:Int)*16)) (ret (x0:ak)))
def md (a0:List cE):List cE:=a0
def gd (a0:List cE):Prop:=(cw (2^21) (fun y:cE=>y.size<=(2^21)) a0)
def R:=RR gd md
def au {a0}(h:gd a0):R (a0.map iB)=some (a0.map iB):=dJ h
def aN:=CN [pL 9] (oL 9) RT.dec R
def bC (a0)(hg:gd a0):F (a0.map iB)=ret ((md a0).map iB):=by
 unfold gd at hg
 have H0:=hg
 unfold F md
 try simp only [SS]
 refine bn (have:=(H0).1;lm) ?_
 all_goals exact fz
def af:cZ 81 aN:=W1 6 F mix aD bC .nil Tryz.func81
end Z9
namespace Z10
def F (x0:cE)(x1:Int)(x2:ak):az:=(call (Z9.R x2) fun v1=>ret ((⟨x0,3,x1,v1⟩:bl):bl))
def md (a0:cE)(a1:Int)(a2:List cE):ah:=(⟨a0,3,a1,a2⟩:ah)
def gd (a0:cE)(a1:Int)(a2:List cE):Prop:=(cw (2^21) (fun y:cE=>y.size<=(2^21)) a2)
def R:=qE gd md
def au {a0 a1 a2}(h:gd a0 a1 a2):R (a0,a1,(a2.map iB))=some (ah.r (md a0 a1 a2)):=qB h
def aN:=CN [pS,pI,pL 9] (.agg f53) RT.dec R
def bC (a0)(a1)(a2)(hg:gd a0 a1 a2):F a0 a1 (a2.map iB)=ret (ah.r (md a0 a1 a2)):=by
 unfold gd at hg
 have H2:=hg
 unfold F md
 try simp only [SS]
 refine ct (Z9.au H2) ?_
 try simp only [SS]
 all_goals exact fz
def af:cZ 110 aN:=W3 12 F mix aD bC (dR Z9.af) Tryz.func110
end Z10
namespace Z11
def F (x0:cE)(x1:Int):az:=ret ((⟨x0,1,x1,[]⟩:bl):bl)
def md (a0:cE)(a1:Int):ah:=(⟨a0,1,a1,[]⟩:ah)
def gd (a0:cE)(a1:Int):Prop:=True
def R:=dO gd md
def au {a0 a1}(h:gd a0 a1):R (a0,a1)=some (ah.r (md a0 a1)):=dN h
def aN:=CN [pS,pI] (.agg f53) RT.dec R
def bC (a0)(a1)(hg:gd a0 a1):F a0 a1=ret (ah.r (md a0 a1)):=by
 unfold F md
 try simp only [SS]
 all_goals exact fz
def af:cZ 112 aN:=W2 8 F mix aD bC .nil Tryz.func112
end Z11
namespace Z12
def F (x0:ak)(x1 x2:Int):az:=(call (Z6.R (x0,x1,x2)) fun v1=>(call (Z3.R (x0,v1.2.1,v1.2.2.1,5)) fun v2=>(cond (v2.2.2.2==0) (call (Z3.R (x0,v2.2.1,v2.2.2.1,5000)) fun v3=>(call (Z7.R (v1.2.2.2,v3.2.2.2)) fun v4=>ret ((Hl.mk,v3.2.1,v3.2.2.1,v4):Hl×Int×Int×bl))) (cond (v2.2.2.2==1) (call (Z3.R (x0,v2.2.1,v2.2.2.1,5000)) fun v5=>(call (Z8.R (x0,v5.2.1,v5.2.2.1)) fun v6=>(call (Z10.R (v1.2.2.2,v5.2.2.2,v6.2.2.2)) fun v7=>ret ((Hl.mk,v6.2.1,v6.2.2.1,v7):Hl×Int×Int×bl)))) (call (Z3.R (x0,v2.2.1,v2.2.2.1,50)) fun v8=>(call (Z11.R (v1.2.2.2,v8.2.2.2)) fun v9=>ret ((Hl.mk,v8.2.1,v8.2.2.1,v9):Hl×Int×Int×bl)))))))
abbrev bQ:List K:=[.sl 5,aG,aG]
def pats:List (Option eS):=[none]
def res:RP:=.agg [.rd (.str),.rd (.int .i64),.rd (.int .i64),.fr 9]
abbrev E:Env:={ T:=assoc nH,G:=cQ [(109,Z7.aN),(110,Z10.aN),(112,Z11.aN)],nt:=28,M:=dV [],np:=(nC bQ),mt:=false,I:=fq [(108,Z6.ic (nC bQ)),(52,Z3.ic (nC bQ)),(111,Z8.ic (nC bQ))] }
def run_eq (n:Nat)(ls:List L):eg E (fun _=>[]) Tryz.f59 (.cur bQ res.parts) n (eN bQ pats ls)=F (eC ls) (bU 1 ls) (bU 2 ls):=by kernel_rfl
def gd (x0:ak)(x1 x2:Int):Prop:=CI x0 x1
def post (x0:ak)(x1 x2:Int)(y:Hl×Int×Int×bl):Prop:=CI x0 y.2.1/\∃m:ah,y.2.2.2=ah.r m/\ah.Sm 16 m
def wp (x0:ak)(x1 x2:Int)(hg:gd x0 x1 x2):Wp (F x0 x1 x2) (post x0 x1 x2):=by
 unfold F
 refine Z6.bD hg (fun v ⟨hv,hs⟩=>Z3.bD hv (fun w ⟨hw,_,_⟩=>wp_cond (fun _=>?_) (fun _=>wp_cond (fun _=>?_) (fun _=>?_))))
 ·refine Z3.bD hw (fun z ⟨hz,_,_⟩=>bg (Z7.au trivial) (wp_ret ⟨hz,_,rfl,hs,zero_le _,fun _ h=>(nomatch h)⟩))
 ·refine Z3.bD hw (fun z ⟨hz,_,_⟩=>Z8.bD hz (fun t ⟨ht,m,e,hm⟩=>?_))
  rw [e]
  exact bg (Z10.au ⟨le_trans hm.1 (by decide),fun s h=>le_trans (hm.2 s h) (by decide)⟩) (wp_ret ⟨ht,_,rfl,hs,hm⟩)
 ·refine Z3.bD hw (fun z ⟨hz,_,_⟩=>bg (Z11.au trivial) (wp_ret ⟨hz,_,rfl,hs,zero_le _,fun _ h=>(nomatch h)⟩))
def R:(ak×Int×Int)->Option (Hl×Int×Int×bl):=RQ (fun _ x=>F x.1 x.2.1 x.2.2) (fun x=>post x.1 x.2.1 x.2.2)
def bD {x0:ak}{x1 x2:Int}{γ:Type}[RT γ]{k:(Hl×Int×Int×bl)->az}{Q:γ->Prop}(hg:gd x0 x1 x2)(hk:∀y,post x0 x1 x2 y->Wp (k y) Q):Wp (call (R (x0,x1,x2)) k) Q:=cK ⟨0,wp x0 x1 x2 hg⟩ hk
def acc (ls:List L):ak×Int×Int:=((eC ls),(bU 1 ls),(bU 2 ls))
def aN:gE:=CC bQ pats res acc R
def af:dU Tryz.prog Ev 59 aN:=VC (live:=(fun _=>[])) (mt:=false) mix aD (pG Z7.af Z10.af Z11.af) .nil (.cons (Z6.aU (nC bQ)) (.cons (Z3.aU (nC bQ)) (.cons (Z8.aU (nC bQ)) .nil))) Tryz.func59 (by kernel_rfl) run_eq
def ic (_:Nat):eR:=gO Ev aN
def aU (n:Nat):cP Tryz.prog Ev n 59 (ic n):=cF af
end Z12
namespace Z13
def F (x0 x1:cE):az:=(cond (Op.bytesLess x0.toList x1.toList) vP (cond (!((Op.bytesLess x0.toList x1.toList)||(x0.toList==x1.toList))) (ret (1:Int)) (ret (0:Int))))
def md (a0 a1:cE):Int:=(cond (Op.bytesLess a0.toList a1.toList) ((-1):Int) (cond (!((Op.bytesLess a0.toList a1.toList)||(a0.toList==a1.toList))) (1:Int) (0:Int)))
def gd (a0 a1:cE):Prop:=True
def R:=dO gd md
def au {a0 a1}(h:gd a0 a1):R (a0,a1)=some (md a0 a1):=dN h
def aN:=CN [pS,pS] oI RT.dec R
def bC (a0)(a1)(hg:gd a0 a1):F a0 a1=ret (md a0 a1):=by
 unfold F md
 try simp only [SS]
 refine av ret (fun _=>rfl) (fun c1=>?_)
 refine av ret (fun _=>rfl) (fun _=>rfl)
def af:cZ 187 aN:=W2 13 F mix aD bC .nil Tryz.func187
end Z13
namespace Z14
def F (x0:bl):az:=(call (Z9.R x0.cm) fun v1=>ret ((⟨x0.cG,x0.aP,x0.dy,v1⟩:bl):bl))
def md (a0:ah):ah:=a0
def gd (a0:ah):Prop:=(ah.Sm (2^21) a0)
def R:=RR gd md
def au {a0}(h:gd a0):R (ah.r a0)=some (ah.r a0):=dJ h
def aN:=CN [.agg C1] (.agg f53) RT.dec R
def bC (a0)(hg:gd a0):F (ah.r a0)=ret (ah.r (md a0)):=by
 unfold gd at hg
 have H0:=hg
 unfold F md
 try simp only [SS]
 refine ct (Z9.au H0.2) ?_
 try simp only [SS]
 all_goals exact fz
def af:cZ 70 aN:=W1 13 F mix aD bC (dR Z9.af) Tryz.func70
end Z14
namespace Z15
def F (x0 x1 x2:Int):az:=(cond (x0>=x1) (ret ((decide (x0<=x2)):Bool)) bL)
def md (a0 a1 a2:Int):Bool:=(cond (a0>=a1) ((decide (a0<=a2)):Bool) (false:Bool))
def gd (a0 a1 a2:Int):Prop:=True
def R:=qE gd md
def au {a0 a1 a2}(h:gd a0 a1 a2):R (a0,a1,a2)=some (md a0 a1 a2):=qB h
def aN:=CN [pI,pI,pI] oB RT.dec R
def bC (a0)(a1)(a2)(hg:gd a0 a1 a2):F a0 a1 a2=ret (md a0 a1 a2):=by
 unfold F md
 try simp only [SS]
 refine av ret (fun c1=>?_) (fun _=>rfl)
 all_goals exact fz
def af:cZ 41 aN:=W3 15 F mix aD bC .nil Tryz.func41
end Z15
namespace Z16
inductive Pt where
 | p0 (a:cE) (b:Int)
def dM:Pt->List V
 | .p0 a b=>[.str a,.int .i64 b]
def step (J:Pt->az):Pt->az
 | .p0 a b=>(cond (b<(a.size:Int)) (m2 b (a.size:Int) (cond ((iQ a (toNat b))<97) (m2 b (a.size:Int) (cond ((iQ a (toNat b))<48) (m2 b (a.size:Int) (cond ((iQ a (toNat b)) != 45) bL (J (.p0 a (i64.wrap (b+1)))))) (m2 b (a.size:Int) (cond ((iQ a (toNat b))>57) (m2 b (a.size:Int) (cond ((iQ a (toNat b)) != 45) bL (J (.p0 a (i64.wrap (b+1)))))) (J (.p0 a (i64.wrap (b+1)))))))) (m2 b (a.size:Int) (cond ((iQ a (toNat b))>122) (m2 b (a.size:Int) (cond ((iQ a (toNat b))<48) (m2 b (a.size:Int) (cond ((iQ a (toNat b)) != 45) bL (J (.p0 a (i64.wrap (b+1)))))) (m2 b (a.size:Int) (cond ((iQ a (toNat b))>57) (m2 b (a.size:Int) (cond ((iQ a (toNat b)) != 45) bL (J (.p0 a (i64.wrap (b+1)))))) (J (.p0 a (i64.wrap (b+1)))))))) (J (.p0 a (i64.wrap (b+1)))))))) oz)
def start (J:Pt->az)(x0:cE):az:=(call (Z15.R ((x0.size:Int),1,8)) fun v1=>(cond (!v1) bL (dZ ((0:Int)<(x0.size:Int)) (cond ((iQ x0 0)==45) bL (dZ ((0:Int)<=(i64.wrap ((x0.size:Int) - 1))) (dZ ((i64.wrap ((x0.size:Int) - 1))<(x0.size:Int)) (cond ((iQ x0 (toNat (i64.wrap ((x0.size:Int) - 1))))==45) bL (J (.p0 x0 0)))))))))
def live:Nat->Live:=kA [(4,nP [0,3])]
def md (a0:cE):Bool:=(bif (!(Z15.md (a0.size:Int) 1 8)) then (false:Bool) else (bif ((iQ a0 0)==45) then (false:Bool) else (bif ((iQ a0 (toNat (i64.wrap ((a0.size:Int) - 1))))==45) then (false:Bool) else (dS (S:=Unit) (β:=Bool) (fun (i4:Nat) (s6:Unit)=>(cond ((iQ a0 i4)<97) (cond ((iQ a0 i4)<48) (cond ((iQ a0 i4) != 45) (.inr (false:Bool)) (.inl ())) (cond ((iQ a0 i4)>57) (cond ((iQ a0 i4) != 45) (.inr (false:Bool)) (.inl ())) (.inl ()))) (cond ((iQ a0 i4)>122) (cond ((iQ a0 i4)<48) (cond ((iQ a0 i4) != 45) (.inr (false:Bool)) (.inl ())) (cond ((iQ a0 i4)>57) (cond ((iQ a0 i4) != 45) (.inr (false:Bool)) (.inl ())) (.inl ()))) (.inl ())))) (fun (s6:Unit)=>(true:Bool)) a0.size 0 ()))))
def gd (a0:cE):Prop:=(a0.size<=(2^22))
def R:=RR gd md
def au {a0}(h:gd a0):R a0=some (md a0):=dJ h
def aN:=CN [pS] oB RT.dec R
def bC (a0)(hg:gd a0):∃n,start (iter step n) a0=ret (md a0):=by
 unfold gd at hg
 have H0:=hg
 unfold start md
 try simp only [SS]
 refine cx (Z15.au trivial) ?_
 refine iJ ret (fun _=>⟨0,rfl⟩) (fun c1=>?_)
 have dc1:=c1
 try simp only [DC] at dc1
 have Dc1:=c1
 try simp [Z15.md] at Dc1
 refine iL (have:=H0;dt) ?_
 refine iJ ret (fun _=>⟨0,rfl⟩) (fun c2=>?_)
 have dc2:=c2
 try simp only [DC] at dc2
 refine iL (have:=H0;dt) ?_
 refine iL (have:=H0;dt) ?_
 refine iJ ret (fun _=>⟨0,rfl⟩) (fun c3=>?_)
 have dc3:=c3
 try simp only [DC] at dc3
 have Bh5:a0.size<=maxLen:=(by
   have:=H0
   try simp only [maxLen] at *
   omega)
 refine eO (p:=Pt.p0 a0 0) fz ?_
 refine cH (pt:=fun (i4:Nat) (s6:Unit)=>Pt.p0 a0 (i4:Int)) (s:=(():Unit)) (out:=ret) (fun _ _=>True) (fun J i4 s6 h5 hih5=>?_) (fun s6 hih5=>?_) trivial
 ·simp only [step,SS]
  have bb_:=Bh5
  simp only [maxLen] at bb_
  have:=H0
  refine bp.yes (by apply decide_eq_true;omega) ?_
  refine bp.yes bJ ?_
  refine bp.yes (cA h5) ?_
  refine bp.bif (fun c7=>?_) (fun c7=>?_)
  ·refine bp.yes bJ ?_
   refine bp.yes (cA h5) ?_
   refine bp.bif (fun c8=>?_) (fun c8=>?_)
   ·refine bp.yes bJ ?_
    refine bp.yes (cA h5) ?_
    refine bp.bif (fun _=>bp.inr rfl) (fun c9=>?_)
    refine bp.inl trivial ?_
    rw [aT h5 Bh5]
    all_goals exact fz
   ·refine bp.yes bJ ?_
    refine bp.yes (cA h5) ?_
    refine bp.bif (fun c10=>?_) (fun c10=>?_)
    ·refine bp.yes bJ ?_
     refine bp.yes (cA h5) ?_
     refine bp.bif (fun _=>bp.inr rfl) (fun c11=>?_)
     refine bp.inl trivial ?_
     rw [aT h5 Bh5]
     all_goals exact fz
    ·refine bp.inl trivial ?_
     rw [aT h5 Bh5]
     all_goals exact fz
  ·refine bp.yes bJ ?_
   refine bp.yes (cA h5) ?_
   refine bp.bif (fun c12=>?_) (fun c12=>?_)
   ·refine bp.yes bJ ?_
    refine bp.yes (cA h5) ?_
    refine bp.bif (fun c13=>?_) (fun c13=>?_)
    ·refine bp.yes bJ ?_
     refine bp.yes (cA h5) ?_
     refine bp.bif (fun _=>bp.inr rfl) (fun c14=>?_)
     refine bp.inl trivial ?_
     rw [aT h5 Bh5]
     all_goals exact fz
    ·refine bp.yes bJ ?_
     refine bp.yes (cA h5) ?_
     refine bp.bif (fun c15=>?_) (fun c15=>?_)
     ·refine bp.yes bJ ?_
      refine bp.yes (cA h5) ?_
      refine bp.bif (fun _=>bp.inr rfl) (fun c16=>?_)
      refine bp.inl trivial ?_
      rw [aT h5 Bh5]
      all_goals exact fz
     ·refine bp.inl trivial ?_
      rw [aT h5 Bh5]
      all_goals exact fz
   ·refine bp.inl trivial ?_
    rw [aT h5 Bh5]
    all_goals exact fz
 ·simp only [step,SS]
  have:=H0
  refine eM (by apply decide_eq_false;omega) ?_
  refine ⟨0,?_⟩
  all_goals exact fz
def af:cZ 162 aN:=L1 55 (fun _=>4) dM (fun _=>[]) live step start mix aD bC (dR Z15.af) Tryz.func162
end Z16
namespace Z17
inductive Pt where
 | p0 (a:ak) (b:Int)
def dM:Pt->List V
 | .p0 a b=>[.sl none 9 a,.int .i64 b]
def step (J:Pt->az):Pt->az
 | .p0 a b=>(cond (b<(a.length:Int)) (m2 b (a.length:Int) (call (Z16.R (AS a (toNat b))) fun v1=>(cond (!v1) bL (J (.p0 a (i64.wrap (b+1))))))) (call (Z15.R ((a.length:Int),1,4)) fun v2=>ret (v2:Bool)))
def start (J:Pt->az)(x0:ak):az:=J (.p0 x0 0)
def live:Nat->Live:=kA [(2,nP [0,3])]
def md (a0:List cE):Bool:=(dP (S:=Unit) (β:=Bool) (fun (y1:cE) (s3:Unit)=>(cond (!(Z16.md y1)) (.inr (false:Bool)) (.inl ()))) (fun (s3:Unit)=>((Z15.md (a0.length:Int) 1 4):Bool)) a0 ())
def gd (a0:List cE):Prop:=(cw (2^22) (fun y:cE=>y.size<=(2^22)) a0)
def R:=RR gd md
def au {a0}(h:gd a0):R (a0.map iB)=some (md a0):=dJ h
def aN:=CN [pL 9] oB RT.dec R
def bC (a0)(hg:gd a0):∃n,start (iter step n) (a0.map iB)=ret (md a0):=by
 unfold gd at hg
 have H0:=hg
 unfold start md
 try simp only [SS]
 have Bh2:a0.length<=maxLen:=(by
   have:=(H0).1
   try simp only [maxLen] at *
   omega)
 refine ex_eq (out:=ret) (dx (z:=⟨#[]⟩)) ?_
 refine eO (p:=Pt.p0 (a0.map iB) 0) fz ?_
 refine cH (pt:=fun (i1:Nat) (s3:Unit)=>Pt.p0 (a0.map iB) (i1:Int)) (s:=(():Unit)) (out:=ret) (fun _ _=>True) (fun J i1 s3 h2 hih2=>?_) (fun s3 hih2=>?_) trivial
 ·simp only [step,SS]
  have bb_:=Bh2
  simp only [maxLen] at bb_
  have:=(H0).1
  refine bp.yes (by apply decide_eq_true;omega) ?_
  refine bp.yes bJ ?_
  refine bp.yes (cA h2) ?_
  refine cr (Z16.au (cw.getD (z:=⟨#[]⟩) H0 h2)) ?_
  refine bp.bif (fun _=>bp.inr rfl) (fun c4=>?_)
  refine bp.inl trivial ?_
  rw [aT h2 Bh2]
  all_goals exact fz
 ·simp only [step,SS]
  have:=(H0).1
  refine eM (by apply decide_eq_false;omega) ?_
  refine cx (Z15.au trivial) ?_
  refine ⟨0,?_⟩
  all_goals exact fz
def af:cZ 125 aN:=L1 19 (fun _=>2) dM (fun _=>[]) live step start mix aD bC (gD Z16.af Z15.af) Tryz.func125
end Z17
namespace Z18
def F (x0:bl):az:=(cond (x0.aP==1) (call (Z16.R x0.cG) fun v1=>(cond v1 (call (Z15.R (x0.dy,0,999999)) fun v2=>(cond v2 (ret (((x0.cm.length:Int)==0):Bool)) bL)) bL)) (cond (x0.aP==2) (call (Z16.R x0.cG) fun v3=>(cond v3 (call (Z15.R (x0.dy,0,2147483646)) fun v4=>(cond v4 (ret (((x0.cm.length:Int)==0):Bool)) bL)) bL)) (cond (x0.aP==3) (call (Z16.R x0.cG) fun v5=>(cond v5 (call (Z15.R (x0.dy,0,2147483646)) fun v6=>(cond v6 (call (Z17.R x0.cm) fun v7=>ret (v7:Bool)) bL)) bL)) bL)))
def md (a0:ah):Bool:=(cond (a0.aP==1) (cond (Z16.md a0.cG) (cond (Z15.md a0.dy 0 999999) (((a0.cm.length:Int)==0):Bool) (false:Bool)) (false:Bool)) (cond (a0.aP==2) (cond (Z16.md a0.cG) (cond (Z15.md a0.dy 0 2147483646) (((a0.cm.length:Int)==0):Bool) (false:Bool)) (false:Bool)) (cond (a0.aP==3) (cond (Z16.md a0.cG) (cond (Z15.md a0.dy 0 2147483646) ((Z17.md a0.cm):Bool) (false:Bool)) (false:Bool)) (false:Bool))))
def gd (a0:ah):Prop:=(ah.Sm (2^21) a0)
def R:=RR gd md
def au {a0}(h:gd a0):R (ah.r a0)=some (md a0):=dJ h
def aN:=CN [.agg C1] oB RT.dec R
def bC (a0)(hg:gd a0):F (ah.r a0)=ret (md a0):=by
 unfold gd at hg
 have H0:=hg
 unfold F md
 try simp only [SS]
 refine av ret (fun c1=>?_) (fun c1=>?_)
 ·refine ct (Z16.au (le_trans H0.1 (by decide))) ?_
  refine av ret (fun c2=>?_) (fun _=>rfl)
  refine ct (Z15.au trivial) ?_
  refine av ret (fun c3=>?_) (fun _=>rfl)
  all_goals exact fz
 ·refine av ret (fun c4=>?_) (fun c4=>?_)
  ·refine ct (Z16.au (le_trans H0.1 (by decide))) ?_
   refine av ret (fun c5=>?_) (fun _=>rfl)
   refine ct (Z15.au trivial) ?_
   refine av ret (fun c6=>?_) (fun _=>rfl)
   all_goals exact fz
  ·refine av ret (fun c7=>?_) (fun _=>rfl)
   refine ct (Z16.au (le_trans H0.1 (by decide))) ?_
   refine av ret (fun c8=>?_) (fun _=>rfl)
   refine ct (Z15.au trivial) ?_
   refine av ret (fun c9=>?_) (fun _=>rfl)
   refine ct (Z17.au (H0.2.mono (by decide) (fun x hx=>(le_trans hx (by decide))))) ?_
   all_goals exact fz
def af:cZ 126 aN:=W1 52 F mix aD bC (pG Z16.af Z15.af Z17.af) Tryz.func126
end Z18
namespace Z19
inductive Pt where
 | p0 (a:ak) (b:Int)
def dM:Pt->List V
 | .p0 a b=>[.sl none 53 a,.int .i64 b]
def step (J:Pt->az):Pt->az
 | .p0 a b=>(cond (b<(a.length:Int)) (m2 b (a.length:Int) (call (Z18.R (bl.at a (toNat b))) fun v1=>(cond (!v1) bL (cond (b>0) (dZ ((0:Int)<=(i64.wrap (b - 1))) (dZ ((i64.wrap (b - 1))<(a.length:Int)) (m2 b (a.length:Int) (call (Z13.R ((bl.at a (toNat (i64.wrap (b - 1)))).cG,(bl.at a (toNat b)).cG)) fun v2=>(cond (v2 != (-1)) bL (J (.p0 a (i64.wrap (b+1))))))))) (J (.p0 a (i64.wrap (b+1)))))))) (ret ((decide ((a.length:Int)<=12)):Bool)))
def start (J:Pt->az)(x0:ak):az:=J (.p0 x0 0)
def live:Nat->Live:=kA [(2,nP [0,3])]
def md (a0:List ah):Bool:=(dX (S:=Unit) (β:=Bool) (fun (i1:Nat) (y1:ah) (s3:Unit)=>(cond (!(Z18.md y1)) (.inr (false:Bool)) (cond ((i1:Int)>0) (cond ((Z13.md ((a0.getD (toNat (i64.wrap ((i1:Int) - 1))) ah.zero).cG) (y1.cG)) != (-1)) (.inr (false:Bool)) (.inl ())) (.inl ())))) (fun (s3:Unit)=>((decide ((a0.length:Int)<=12)):Bool)) 0 a0 ())
def gd (a0:List ah):Prop:=(cw (2^21) (fun y:ah=>ah.Sm (2^21) y) a0)
def R:=RR gd md
def au {a0}(h:gd a0):R (a0.map ah.row)=some (md a0):=dJ h
def aN:=CN [pL 53] oB RT.dec R
def bC (a0)(hg:gd a0):∃n,start (iter step n) (a0.map ah.row)=ret (md a0):=by
 unfold gd at hg
 have H0:=hg
 unfold start md
 try simp only [SS]
 have Bh2:a0.length<=maxLen:=(by
   have:=(H0).1
   try simp only [maxLen] at *
   omega)
 refine ex_eq (out:=ret) (cX (z:=ah.zero)) ?_
 refine eO (p:=Pt.p0 (a0.map ah.row) 0) fz ?_
 refine cH (pt:=fun (i1:Nat) (s3:Unit)=>Pt.p0 (a0.map ah.row) (i1:Int)) (s:=(():Unit)) (out:=ret) (fun _ _=>True) (fun J i1 s3 h2 hih2=>?_) (fun s3 hih2=>?_) trivial
 ·simp only [step,SS]
  have bb_:=Bh2
  simp only [maxLen] at bb_
  have:=(H0).1
  refine bp.yes (by apply decide_eq_true;omega) ?_
  refine bp.yes bJ ?_
  refine bp.yes (cA h2) ?_
  refine cr (Z18.au (cw.getD (z:=ah.zero) H0 h2)) ?_
  refine bp.bif (fun _=>bp.inr rfl) (fun c4=>?_)
  have dc4:=c4
  try simp only [DC] at dc4
  refine bp.bif (fun c5=>?_) (fun c5=>?_)
  ·have dc5:=c5
   try simp only [DC] at dc5
   refine bp.yes dt ?_
   refine bp.yes (have:=(H0).1;dt) ?_
   refine bp.yes bJ ?_
   refine bp.yes (cA h2) ?_
   refine cr (Z13.au trivial) ?_
   refine bp.bif (fun _=>bp.inr rfl) (fun c6=>?_)
   refine bp.inl trivial ?_
   rw [aT h2 Bh2]
   all_goals exact fz
  ·refine bp.inl trivial ?_
   rw [aT h2 Bh2]
   all_goals exact fz
 ·simp only [step,SS]
  have:=(H0).1
  refine eM (by apply decide_eq_false;omega) ?_
  refine ⟨0,?_⟩
  all_goals exact fz
def af:cZ 188 aN:=L1 38 (fun _=>2) dM (fun _=>[]) live step start mix aD bC (gD Z18.af Z13.af) Tryz.func188
end Z19
namespace Z20
inductive Pt where
 | p0 (a:ak) (b:Int) (c:ak)
def dM:Pt->List V
 | .p0 a b c=>[.sl none 53 a,.own 0,.int .i64 b]
def fk:Pt->List aA
 | .p0 a b c=>[.row 53 c]
def step (J:Pt->az):Pt->az
 | .p0 a b c=>(cond (b<(a.length:Int)) (m2 b (a.length:Int) (call (Z14.R (bl.at a (toNat b))) fun v1=>(dZ (gy (((c.length:Int)+1)*56)) (J (.p0 a (i64.wrap (b+1)) (c++[(bl.enc v1)])))))) (ret (c:ak)))
def start (J:Pt->az)(x0:ak):az:=J (.p0 x0 0 [])
def live:Nat->Live:=kA [(3,[(0,none),(3,some 53),(4,none)])]
def md (a0:List ah):List ah:=a0
def gd (a0:List ah):Prop:=(cw (2^21) (fun y:ah=>ah.Sm (2^21) y) a0)
def R:=RR gd md
def au {a0}(h:gd a0):R (a0.map ah.row)=some (a0.map ah.row):=dJ h
def aN:=CN [pL 53] (oL 53) RT.dec R
def bC (a0)(hg:gd a0):∃n,start (iter step n) (a0.map ah.row)=ret ((md a0).map ah.row):=by
 unfold gd at hg
 have H0:=hg
 unfold start md
 try simp only [SS]
 have Bh2:a0.length<=maxLen:=(by
   have:=(H0).1
   try simp only [maxLen] at *
   omega)
 refine ex_eq (out:=(fun b:List ah=>ret ((b.map ah.row):ak))) (sB (xs:=a0) (z:=ah.zero) (t:=fun s3:List ah=>s3)) ?_
 refine eO (p:=Pt.p0 (a0.map ah.row) 0 ([].map ah.row)) fz ?_
 refine cH (pt:=fun (i1:Nat) (s3:List ah)=>Pt.p0 (a0.map ah.row) (i1:Int) (s3.map ah.row)) (s:=([]:List ah)) (out:=(fun b:List ah=>ret ((b.map ah.row):ak))) (fun (i1:Nat) (s3:List ah)=>s3.length<=([]:List Int).length+1*i1) (fun J i1 s3 h2 hih2=>?_) (fun s3 hih2=>?_) (by simp)
 ·simp only [step,SS]
  have gr_:=hih2
  try simp only [LN] at gr_
  have bb_:=Bh2
  simp only [maxLen] at bb_
  have:=(H0).1
  refine bp.yes (by apply decide_eq_true;omega) ?_
  refine bp.yes bJ ?_
  refine bp.yes (cA h2) ?_
  refine cr (Z14.au (cw.getD (z:=ah.zero) H0 h2)) ?_
  try simp only [SS]
  refine bp.yes lm ?_
  refine bp.inl (by
    have g_:=hih2
    try simp only [LN] at g_ ⊢
    first | omega | (simp;done) | (simp;omega)) ?_
  rw [aT h2 Bh2]
  all_goals exact fz
 ·simp only [step,SS]
  have gr_:=hih2
  try simp only [LN] at gr_
  have:=(H0).1
  refine eM (by apply decide_eq_false;omega) ?_
  refine ⟨0,?_⟩
  all_goals exact fz
def af:cZ 186 aN:=L1 21 (fun _=>3) dM fk live step start mix aD bC (dR Z14.af) Tryz.func186
end Z20
namespace Z21
inductive Pt where
 | p0 (a:ak) (b:Bool) (c:Int) (d:bl) (e:ak)
def pid:Pt->Nat
 | .p0 ..=>4
def dM:Pt->List V
 | .p0 a b c d e=>[.sl none 53 a,.bB 0 0,.own 1,.bool b,.int .i64 c]
def fk:Pt->List aA
 | .p0 a b c d e=>[.box [.str d.cG,.int .i64 d.aP,.int .i64 d.dy,.sl none 9 d.cm],.row 53 e]
def step (J:Pt->az):Pt->az
 | .p0 a b c d e=>(cond (c<(a.length:Int)) (m2 c (a.length:Int) (call (Z13.R ((bl.at a (toNat c)).cG,d.cG)) fun v1=>(cond (v1>=0) (cond (!b) (call (Z14.R d) fun v2=>(dZ (gy (((e.length:Int)+1)*56)) (cond (v1 != 0) (m2 c (a.length:Int) (call (Z14.R (bl.at a (toNat c))) fun v3=>(dZ (gy ((((e++[(bl.enc v2)]).length:Int)+1)*56)) (J (.p0 a true (i64.wrap (c+1)) d ((e++[(bl.enc v2)])++[(bl.enc v3)])))))) (J (.p0 a true (i64.wrap (c+1)) d (e++[(bl.enc v2)])))))) (cond (v1 != 0) (m2 c (a.length:Int) (call (Z14.R (bl.at a (toNat c))) fun v4=>(dZ (gy (((e.length:Int)+1)*56)) (J (.p0 a b (i64.wrap (c+1)) d (e++[(bl.enc v4)])))))) (J (.p0 a b (i64.wrap (c+1)) d e)))) (cond (v1 != 0) (m2 c (a.length:Int) (call (Z14.R (bl.at a (toNat c))) fun v5=>(dZ (gy (((e.length:Int)+1)*56)) (J (.p0 a b (i64.wrap (c+1)) d (e++[(bl.enc v5)])))))) (J (.p0 a b (i64.wrap (c+1)) d e)))))) (cond (!b) (call (Z14.R d) fun v6=>(dZ (gy (((e.length:Int)+1)*56)) (call (Z19.R a) fun v7=>(cond (!v7) (call (Z20.R a) fun v8=>ret ((v8,false):ak×Bool)) (call (Z19.R (e++[(bl.enc v6)])) fun v9=>(cond (!v9) (call (Z20.R a) fun v10=>ret ((v10,false):ak×Bool)) (ret (((e++[(bl.enc v6)]),true):ak×Bool)))))))) (call (Z19.R a) fun v11=>(cond (!v11) (call (Z20.R a) fun v12=>ret ((v12,false):ak×Bool)) (call (Z19.R e) fun v13=>(cond (!v13) (call (Z20.R a) fun v14=>ret ((v14,false):ak×Bool)) (ret ((e,true):ak×Bool))))))))
def start (J:Pt->az)(x0:ak)(x1:bl):az:=J (.p0 x0 false 0 x1 [])
def live:Nat->Live:=kA [(4,[(0,none),(3,none),(6,some 53),(7,none),(8,none)])]
def pats:List eS:=[.rd (.sl 53),.agg [.str,aG,aG,.sl 9]]
def res:RP:=.gL [(false,[.fr 53]),(false,[.rd (.bool)])]
abbrev E:Env:={ T:=assoc nH,G:=cQ [(187,Z13.aN),(70,Z14.aN),(188,Z19.aN),(186,Z20.aN)],nt:=64,M:=dV [],np:=0,mt:=false,I:=fq [] }
def step_eq (I:dL)(p:Pt):dA E live I (pid p) (bN Tryz.f147) (kO (live (pid p)) (dM p) (fk p)) (dI E Tryz.f147 res)=step (fun q=>I (pid q) (dM q) (fk q)) p:=by
 cases p<;>kernel_rfl
def start_eq (I:dL)(ls:List L):gU E live I (bN Tryz.f147) (ew pats ls) (dI E Tryz.f147 res)=start (fun q=>I (pid q) (dM q) (fk q)) (eC ls) (bl.dec (bt 1 ls)):=by kernel_rfl
def run_eq (n:Nat)(ls:List L):eg E live Tryz.f147 res n (ew pats ls)=start (iter step n) (eC ls) (bl.dec (bt 1 ls)):=eo (id:=pid) (vs:=dM) (hs:=fk) (step:=step) (start:=fun J=>start J (eC ls) (bl.dec (bt 1 ls))) step_eq (fun I=>start_eq I ls) n
def gd (x0:ak)(x1:bl):Prop:=(∃m:List ah,x0=m.map ah.row/\cw 1000 (fun z:ah=>ah.Sm 64 z) m)/\∃e:ah,x1=ah.r e/\ah.Sm 64 e
def post (x0:ak)(x1:bl)(y:ak×Bool):Prop:=∃m:List ah,y.1=m.map ah.row/\cw (x0.length+1) (fun z:ah=>ah.Sm 64 z) m
def wp (x0:ak)(x1:bl)(hg:gd x0 x1):∃n,Wp (start (iter step n) x0 x1) (post x0 x1):=by
 obtain ⟨⟨m,rfl,hm⟩,e0,rfl,he⟩:=hg
 have big:∀{z:ah},ah.Sm 64 z->ah.Sm (2^21) z:=fun h=>ah.aV (by decide) h
 have hmb:cw (2^21) (fun z:ah=>ah.Sm (2^21) z) m:=hm.mono (by decide) fun _ h=>big h
 have hlen:=hm.1
 refine ⟨m.length+2,iR (fun p=>match p with | .p0 a b c d e=>a=m.map ah.row/\d=ah.r e0/\0<=c/\c<=m.length/\∃es:List ah,e=es.map ah.row/\(es.length:Int)<=c+(cond b 1 0)/\∀z∈es,ah.Sm 64 z) (fun p=>match p with | .p0 a b c d e=>((m.length:Int) - c).toNat) (fun J p hI hJ=>?_) _ _ ⟨rfl,rfl,Int.le_refl _,by omega,[],rfl,by show (0:Int)<=0+0;decide,fun _ h=>(nomatch h)⟩ (by show ((m.length:Int) - 0).toNat<_;omega)⟩
 obtain ⟨a,b,c,d,e⟩:=p
 obtain ⟨rfl,rfl,h1,h2,es,rfl,h3,h4⟩:=hI
 have hb:(cond b (1:Int) 0)<=1:=by cases b<;>decide
 have add:∀(es:List ah) (z:ah),(es.map ah.row)++[bl.enc (ah.r z)]=(es++[z]).map ah.row:=fun es z=>by rw [List.map_append];rfl
 have two:∀{es:List ah} {z:ah},(∀z∈es,ah.Sm 64 z)->ah.Sm 64 z->∀y∈es++[z],ah.Sm 64 y:=fun h1 h2 y hy=>(List.mem_append.1 hy).elim (h1 y) fun h=>by simp at h;subst h;exact h2
 have fin:∀(es:List ah),(es.length:Int)<=m.length+1->(∀z∈es,ah.Sm 64 z)->Wp (call (Z19.R (m.map ah.row)) fun v7=>(cond (!v7) (call (Z20.R (m.map ah.row)) fun v8=>ret ((v8,false):ak×Bool)) (call (Z19.R (es.map ah.row)) fun v9=>(cond (!v9) (call (Z20.R (m.map ah.row)) fun v10=>ret ((v10,false):ak×Bool)) (ret ((es.map ah.row,true):ak×Bool)))))) (post (m.map ah.row) (ah.r e0)):=by
  intro es hl hs
  have hp:∀q:Bool,post (m.map ah.row) (ah.r e0) (m.map ah.row,q):=fun q=>⟨m,rfl,by rw [List.length_map];omega,hm.2⟩
  refine bg (Z19.au hmb) (wp_cond (fun _=>bg (Z20.au hmb) (wp_ret (hp _))) (fun _=>bg (Z19.au ⟨by omega,fun z hz=>big (hs z hz)⟩) (wp_cond (fun _=>bg (Z20.au hmb) (wp_ret (hp _))) (fun _=>wp_ret ⟨es,rfl,by rw [List.length_map];omega,hs⟩))))
 refine wp_cond (fun c1=>?_) (fun c1=>?_)
 ·have c1:=of_decide_eq_true c1
  rw [List.length_map] at c1
  have e1:i64.wrap (c+1)=c+1:=wi _ (by omega)
  have hc0:c.toNat<m.length:=by omega
  have hat:bl.at (m.map ah.row) (toNat c)=ah.r (m[c.toNat]):=ah.CB hc0
  have hSm:ah.Sm 64 m[c.toNat]:=hm.get hc0
  have hcl:c<((m.map ah.row).length:Int):=by rw [List.length_map];exact c1
  have lm:∀es:List ah,(es.length:Int)<=m.length+2->gy (((es.map ah.row).length+1:Int)*56)=true:=fun es h=>gK (by rw [List.length_map];omega)
  have go:∀(b2:Bool) (es2:List ah),(es2.length:Int)<=c+1+(cond b2 1 0)->(∀z∈es2,ah.Sm 64 z)->Wp (J (.p0 (m.map ah.row) b2 (i64.wrap (c+1)) (ah.r e0) (es2.map ah.row))) (post (m.map ah.row) (ah.r e0)):=fun b2 es2 hl hs=>
   hJ _ ⟨rfl,rfl,by show 0<=i64.wrap (c+1);omega,by show i64.wrap (c+1)<=_;omega,es2,rfl,by rw [e1];exact hl,hs⟩ (by show ((m.length:Int) - i64.wrap (c+1)).toNat<((m.length:Int) - c).toNat;omega)
  refine qm h1 hcl ?_
  rw [hat]
  refine bg (Z13.au trivial) (wp_cond (fun _=>wp_cond (fun cb=>?_) (fun _=>?_)) (fun _=>?_))
  ·have hbf:b=false:=by simpa using cb
   subst hbf
   have h3:(es.length:Int)<=c+0:=h3
   refine bg (Z14.au (big he)) (cY (lm es (by omega)) ?_)
   rw [add]
   refine wp_cond (fun _=>qm h1 hcl (bg (Z14.au (big hSm)) (cY (lm _ (by simp;omega)) ?_))) (fun _=>go true _ (by simp;omega) (two h4 he))
   rw [add]
   exact go true _ (by simp;omega) (two (two h4 he) hSm)
  ·refine wp_cond (fun _=>qm h1 hcl (bg (Z14.au (big hSm)) (cY (lm es (by omega)) ?_))) (fun _=>go b es (by omega) h4)
   rw [add]
   exact go b _ (by simp;omega) (two h4 hSm)
  ·refine wp_cond (fun _=>qm h1 hcl (bg (Z14.au (big hSm)) (cY (lm es (by omega)) ?_))) (fun _=>go b es (by omega) h4)
   rw [add]
   exact go b _ (by simp;omega) (two h4 hSm)
 ·refine wp_cond (fun cb=>?_) (fun _=>fin es (by omega) h4)
  have hbf:b=false:=by simpa using cb
  subst hbf
  have h3:(es.length:Int)<=c+0:=h3
  refine bg (Z14.au (big he)) (cY (gK (by rw [List.length_map];omega)) ?_)
  rw [add]
  exact fin _ (by simp;omega) (two h4 he)
def R:(ak×bl)->Option (ak×Bool):=RQ (fun n x=>start (iter step n) x.1 x.2) (fun x=>post x.1 x.2)
def bD {x0:ak}{x1:bl}{γ:Type}[RT γ]{k:(ak×Bool)->az}{Q:γ->Prop}(hg:gd x0 x1)(hk:∀y,post x0 x1 y->Wp (k y) Q):Wp (call (R (x0,x1)) k) Q:=cK (wp x0 x1 hg) hk
def acc (ls:List L):ak×bl:=((eC ls),(bl.dec (bt 1 ls)))
def aN:gS:=CN pats res acc R
def af:cZ 147 aN:=VQ (live:=live) (mt:=false) mix aD (wL Z13.af Z14.af Z19.af Z20.af) .nil .nil Tryz.func147 (by kernel_rfl) run_eq
end Z21
namespace Z22
inductive Pt where
 | p0 (a b c:Int) (d e:ak)
def pid:Pt->Nat
 | .p0 ..=>3
def dM:Pt->List V
 | .p0 a b c d e=>[.bB 0 0,.own 2,.int .i64 a]
def fk:Pt->List aA
 | .p0 a b c d e=>[.box [.own 1,.int .i64 b,.int .i64 c],.vw 5 d,.row 53 e]
def step (J:Pt->az):Pt->az
 | .p0 a b c d e=>(cond (a>0) (call (Z12.R (d,b,c)) fun v1=>(call (Z21.R (e,v1.2.2.2)) fun v2=>J (.p0 (i64.wrap (a - 1)) v1.2.1 v1.2.2.1 d v2.1))) (ret ((Hl.mk,b,c,e):Hl×Int×Int×ak)))
def start (J:Pt->az)(x0:ak)(x1 x2:Int):az:=(call (Z3.R (x0,x1,x2,7)) fun v1=>J (.p0 v1.2.2.2 v1.2.1 v1.2.2.1 x0 []))
def live:Nat->Live:=kA [(3,[(0,none),(3,some 53),(4,none)])]
abbrev bQ:List K:=[.sl 5,aG,aG]
def pats:List (Option eS):=[none]
def res:RP:=.one (.fr 53)
abbrev E:Env:={ T:=assoc nH,G:=cQ [(147,Z21.aN)],nt:=20,M:=dV [],np:=(nC bQ),mt:=false,I:=fq [(52,Z3.ic (nC bQ)),(59,Z12.ic (nC bQ))] }
def step_eq (I:dL)(p:Pt):dA E live I (pid p) (bN Tryz.f178) (kO (live (pid p)) (dM p) (fk p)) (dI E Tryz.f178 (.cur bQ res.parts))=step (fun q=>I (pid q) (dM q) (fk q)) p:=by
 cases p<;>kernel_rfl
def start_eq (I:dL)(ls:List L):gU E live I (bN Tryz.f178) (eN bQ pats ls) (dI E Tryz.f178 (.cur bQ res.parts))=start (fun q=>I (pid q) (dM q) (fk q)) (eC ls) (bU 1 ls) (bU 2 ls):=by kernel_rfl
def run_eq (n:Nat)(ls:List L):eg E live Tryz.f178 (.cur bQ res.parts) n (eN bQ pats ls)=start (iter step n) (eC ls) (bU 1 ls) (bU 2 ls):=eo (id:=pid) (vs:=dM) (hs:=fk) (step:=step) (start:=fun J=>start J (eC ls) (bU 1 ls) (bU 2 ls)) step_eq (fun I=>start_eq I ls) n
def gd (x0:ak)(x1 x2:Int):Prop:=CI x0 x1
def post (x0:ak)(x1 x2:Int)(y:Hl×Int×Int×ak):Prop:=CI x0 y.2.1/\∃m:List ah,y.2.2.2=m.map ah.row/\cw 8 (fun z:ah=>ah.Sm 64 z) m
def wp (x0:ak)(x1 x2:Int)(hg:gd x0 x1 x2):∃n,Wp (start (iter step n) x0 x1 x2) (post x0 x1 x2):=by
 have key:∀a d e,0<=a->a<=7->CI x0 d->∃n,Wp (iter step n (.p0 a d e x0 [])) (post x0 x1 x2):=by
  intro a d e h1 h2 h3
  refine ⟨9,iR (fun p=>match p with | .p0 a b c d e=>0<=a/\a<=7/\CI d b/\d=x0/\∃ms:List ah,e=ms.map ah.row/\(ms.length:Int)+a<=7/\∀s∈ms,ah.Sm 64 s) (fun p=>match p with | .p0 a b c d e=>a.toNat) (fun J p hI hJ=>?_) _ _ ⟨h1,h2,h3,rfl,[],rfl,by show (0:Int)+a<=7;omega,fun _ h=>(nomatch h)⟩ (by show a.toNat<9;omega)⟩
  obtain ⟨a,b,c,d,e⟩:=p
  obtain ⟨k1,k2,k3,rfl,ms,rfl,h6,h7⟩:=hI
  refine wp_cond (fun c1=>?_) (fun c1=>?_)
  ·have c1:=of_decide_eq_true c1
   have e1:i64.wrap (a - 1)=a - 1:=wi _ (by omega)
   refine Z12.bD k3 (fun v ⟨hv,en,ee,hs⟩=>Z21.bD ⟨⟨ms,rfl,by omega,h7⟩,en,ee,ah.aV (by decide) hs⟩ (fun w ⟨m2,e2,hl,hs2⟩=>hJ _ ⟨?_,?_,hv,rfl,m2,e2,?_,hs2⟩ ?_))
   ·show 0<=i64.wrap (a - 1);omega
   ·show i64.wrap (a - 1)<=7;omega
   ·rw [List.length_map] at hl;rw [e1];omega
   ·show (i64.wrap (a - 1)).toNat<a.toNat;omega
  ·exact wp_ret ⟨k3,ms,rfl,(show ms.length<=8 by omega),h7⟩
 obtain ⟨v,hv,pv⟩:=Z3.iN (x3:=7) hg
 obtain ⟨h1,h2⟩:=pv.2.2 (by decide)
 obtain ⟨n,hn⟩:=key v.2.2.2 v.2.1 v.2.2.1 h1 (by omega) pv.1
 exact ⟨n,bg hv hn⟩
def R:(ak×Int×Int)->Option (Hl×Int×Int×ak):=RQ (fun n x=>start (iter step n) x.1 x.2.1 x.2.2) (fun x=>post x.1 x.2.1 x.2.2)
def bD {x0:ak}{x1 x2:Int}{γ:Type}[RT γ]{k:(Hl×Int×Int×ak)->az}{Q:γ->Prop}(hg:gd x0 x1 x2)(hk:∀y,post x0 x1 x2 y->Wp (k y) Q):Wp (call (R (x0,x1,x2)) k) Q:=cK (wp x0 x1 x2 hg) hk
def acc (ls:List L):ak×Int×Int:=((eC ls),(bU 1 ls),(bU 2 ls))
def aN:gE:=CC bQ pats res acc R
def af:dU Tryz.prog Ev 178 aN:=VC (live:=live) (mt:=false) mix aD (dR Z21.af) .nil (.cons (Z3.aU (nC bQ)) (.cons (Z12.aU (nC bQ)) .nil)) Tryz.func178 (by kernel_rfl) run_eq
def ic (_:Nat):eR:=gO Ev aN
def aU (n:Nat):cP Tryz.prog Ev n 178 (ic n):=cF af
end Z22
namespace Z23
def F (x0:aX):az:=(dZ (gy (((2:Int)+(x0.aI.length:Int))*8)) (ret (([[L.int x0.bS],[L.int (x0.aI.length:Int)]]++x0.aI):ak)))
def md (a0:aq):List Int:=([a0.bS,(a0.aI.length:Int)]++a0.aI)
def gd (a0:aq):Prop:=(aq.Sm (2^21) a0)
def R:=RR gd md
def au {a0}(h:gd a0):R (aq.r a0)=some ((md a0).map aQ):=dJ h
def aN:=CN [.agg nR] (oL 3) RT.dec R
def bC (a0)(hg:gd a0):F (aq.r a0)=ret ((md a0).map aQ):=by
 unfold gd at hg
 have H0:=hg
 unfold F md
 try simp only [SS]
 refine bn (have:=(H0).1;lm) ?_
 all_goals exact fz
def af:cZ 171 aN:=W1 12 F mix aD bC .nil Tryz.func171
def len (a0:aq):(md a0).length=2+a0.aI.length:=by simp [md];omega
end Z23
namespace Z24
def F (x0 x1:Int):az:=(call (Z15.R (x1,1,1000000000000)) fun v1=>(cond (!v1) (ret (0:Int)) (cond (x1=0) none (cond (x1=0) none (ret ((Int.tmod (i64.wrap ((Int.tmod x0 x1)+x1)) x1):Int))))))
def md (a0 a1:Int):Int:=(cond (!(Z15.md a1 1 1000000000000)) (0:Int) ((Int.tmod (i64.wrap ((Int.tmod a0 a1)+a1)) a1):Int))
def gd (a0 a1:Int):Prop:=True
def R:=dO gd md
def au {a0 a1}(h:gd a0 a1):R (a0,a1)=some (md a0 a1):=dN h
def aN:=CN [pI,pI] oI RT.dec R
def bC (a0)(a1)(hg:gd a0 a1):F a0 a1=ret (md a0 a1):=by
 unfold F md
 try simp only [SS]
 refine ct (Z15.au trivial) ?_
 refine av ret (fun _=>rfl) (fun c1=>?_)
 have dc1:=c1
 try simp only [DC] at dc1
 have Dc1:=c1
 try simp [Z15.md] at Dc1
 refine gX df ?_
 refine gX df ?_
 all_goals exact fz
def af:cZ 214 aN:=W2 15 F mix aD bC (dR Z15.af) Tryz.func214
end Z24
namespace Z25
inductive Pt where
 | p0 (a:ak) (b c:Int)
def dM:Pt->List V
 | .p0 a b c=>[.sl none 3 a,.int .i64 b,.int .i64 c]
def step (J:Pt->az):Pt->az
 | .p0 a b c=>(cond (c<(a.length:Int)) (m2 c (a.length:Int) (call (Z24.R ((ld a (toNat c)),2147483647)) fun v1=>J (.p0 a (Int.tmod (i64.wrap ((i64.wrap ((i64.wrap (b*1000003))+v1))+13)) 2147483647) (i64.wrap (c+1))))) (ret (b:Int)))
def start (J:Pt->az)(x0:ak):az:=J (.p0 x0 11 0)
def live:Nat->Live:=kA [(3,nP [0,3,4])]
def md (a0:List Int):Int:=(dP (S:=Int) (β:=Int) (fun (y1:Int) (s3:Int)=>(.inl (Int.tmod (i64.wrap ((i64.wrap ((i64.wrap (s3*1000003))+(Z24.md y1 2147483647)))+13)) 2147483647))) (fun (s3:Int)=>(s3:Int)) a0 11)
def gd (a0:List Int):Prop:=(cw (2^43) (fun y:Int=>True) a0)
def R:=RR gd md
def au {a0}(h:gd a0):R (a0.map aQ)=some (md a0):=dJ h
def aN:=CN [pL 3] oI RT.dec R
def bC (a0)(hg:gd a0):∃n,start (iter step n) (a0.map aQ)=ret (md a0):=by
 unfold gd at hg
 have H0:=hg
 unfold start md
 try simp only [SS]
 have Bh2:a0.length<=maxLen:=(by
   have:=(H0).1
   try simp only [maxLen] at *
   omega)
 refine ex_eq (out:=ret) (dx (z:=0)) ?_
 refine eO (p:=Pt.p0 (a0.map aQ) 11 0) fz ?_
 refine cH (pt:=fun (i1:Nat) (s3:Int)=>Pt.p0 (a0.map aQ) s3 (i1:Int)) (s:=(11:Int)) (out:=ret) (fun _ _=>True) (fun J i1 s3 h2 hih2=>?_) (fun s3 hih2=>?_) trivial
 ·simp only [step,SS]
  have bb_:=Bh2
  simp only [maxLen] at bb_
  have:=(H0).1
  refine bp.yes (by apply decide_eq_true;omega) ?_
  refine bp.yes bJ ?_
  refine bp.yes (cA h2) ?_
  refine cr (Z24.au trivial) ?_
  refine bp.inl trivial ?_
  rw [aT h2 Bh2]
  all_goals exact fz
 ·simp only [step,SS]
  have:=(H0).1
  refine eM (by apply decide_eq_false;omega) ?_
  refine ⟨0,?_⟩
  all_goals exact fz
def af:cZ 170 aN:=L1 22 (fun _=>3) dM (fun _=>[]) live step start mix aD bC (dR Z24.af) Tryz.func170
end Z25
namespace Z26
def F (x0:aX)(x1:Int):az:=(call (Z23.R x0) fun v1=>(dZ (gy (((2:Int)+(v1.length:Int))*8)) (call (Z25.R ([[L.int 239],[L.int x1]]++v1)) fun v2=>ret (v2:Int))))
def md (a0:aq)(a1:Int):Int:=((Z25.md ([239,a1]++(Z23.md a0))):Int)
def gd (a0:aq)(a1:Int):Prop:=(aq.Sm (2^21) a0)
def R:=dO gd md
def au {a0 a1}(h:gd a0 a1):R ((aq.r a0),a1)=some (md a0 a1):=dN h
def aN:=CN [.agg nR,pI] oI RT.dec R
def bC (a0)(a1)(hg:gd a0 a1):F (aq.r a0) a1=ret (md a0 a1):=by
 unfold gd at hg
 have H0:=hg
 unfold F md
 try simp only [SS]
 refine ct (Z23.au H0) ?_
 try simp only [SS]
 refine bn (have:=Z23.len a0;have:=(H0).1;lm) ?_
 refine dF (Z25.md ([239,a1]++(Z23.md a0))) (rq (Z25.au (a0:=([239,a1]++(Z23.md a0))) ⟨(have:=Z23.len a0;have:=(H0).1;om),fun _ _=>trivial⟩)) ?_
 all_goals exact fz
def af:cZ 134 aN:=W2 11 F mix aD bC (gD Z23.af Z25.af) Tryz.func134
end Z26
namespace Z27
inductive Pt where
 | p0 (a:ak) (b:Int) (c:ak)
def dM:Pt->List V
 | .p0 a b c=>[.sl none 5 a,.own 0,.int .i64 b]
def fk:Pt->List aA
 | .p0 a b c=>[.row 3 c]
def step (J:Pt->az):Pt->az
 | .p0 a b c=>(cond (b<(a.length:Int)) (m2 b (a.length:Int) (dZ (gy (((c.length:Int)+1)*8)) (J (.p0 a (i64.wrap (b+1)) (c++[[L.int (i64.wrap (ld a (toNat b)))]]))))) (ret (c:ak)))
def start (J:Pt->az)(x0:ak):az:=J (.p0 x0 0 [[L.int (x0.length:Int)]])
def live:Nat->Live:=kA [(3,nP [0,3,4])]
def md (a0:List Int):List Int:=([(a0.length:Int)]++a0.map (fun (y1:Int)=>(i64.wrap y1)))
def gd (a0:List Int):Prop:=(cw (2^38) (fun y:Int=>True) a0)
def R:=RR gd md
def au {a0}(h:gd a0):R (a0.map aQ)=some ((md a0).map aQ):=dJ h
def aN:=CN [pL 5] (oL 3) RT.dec R
def bC (a0)(hg:gd a0):∃n,start (iter step n) (a0.map aQ)=ret ((md a0).map aQ):=by
 unfold gd at hg
 have H0:=hg
 unfold start md
 try simp only [SS]
 have Bh2:a0.length<=maxLen:=(by
   have:=(H0).1
   try simp only [maxLen] at *
   omega)
 refine ex_eq (out:=(fun b:List Int=>ret ((b.map aQ):ak))) (oV (g:=fun (y1:Int)=>(i64.wrap y1)) (z:=0) (t:=fun (s3:List Int)=>s3) (s:=[(a0.length:Int)])) ?_
 refine eO (p:=Pt.p0 (a0.map aQ) 0 ([(a0.length:Int)].map aQ)) fz ?_
 refine cH (pt:=fun (i1:Nat) (s3:List Int)=>Pt.p0 (a0.map aQ) (i1:Int) (s3.map aQ)) (s:=([(a0.length:Int)]:List Int)) (out:=(fun b:List Int=>ret ((b.map aQ):ak))) (fun (i1:Nat) (s3:List Int)=>s3.length<=[(a0.length:Int)].length+1*i1) (fun J i1 s3 h2 hih2=>?_) (fun s3 hih2=>?_) (by simp)
 ·simp only [step,SS]
  have gr_:=hih2
  try simp only [LN] at gr_
  have:=(H0).1
  have bb_:=Bh2
  simp only [maxLen] at bb_
  have:=(H0).1
  refine bp.yes (by apply decide_eq_true;omega) ?_
  refine bp.yes bJ ?_
  refine bp.yes (cA h2) ?_
  refine bp.yes lm ?_
  refine bp.inl (by
    have g_:=hih2
    try simp only [LN] at g_ ⊢
    first | omega | (simp;done) | (simp;omega)) ?_
  rw [aT h2 Bh2]
  all_goals exact fz
 ·simp only [step,SS]
  have gr_:=hih2
  try simp only [LN] at gr_
  have:=(H0).1
  have:=(H0).1
  refine eM (by apply decide_eq_false;omega) ?_
  refine ⟨0,?_⟩
  all_goals exact fz
def af:cZ 261 aN:=L1 23 (fun _=>3) dM fk live step start mix aD bC .nil Tryz.func261
def len (a0:List Int):(md a0).length=1+a0.length:=by simp [md];omega
end Z27
namespace Z28
def F (x0:cE):az:=(dZ ((x0.size:Int)<=140737488355328) (call (Z27.R (iK x0)) fun v1=>ret (v1:ak)))
def md (a0:cE):List Int:=(Z27.md (kH a0))
def gd (a0:cE):Prop:=(a0.size<=(2^21))
def R:=RR gd md
def au {a0}(h:gd a0):R a0=some ((md a0).map aQ):=dJ h
def aN:=CN [pS] (oL 3) RT.dec R
def bC (a0)(hg:gd a0):F a0=ret ((md a0).map aQ):=by
 unfold gd at hg
 have H0:=hg
 unfold F md
 try simp only [SS]
 refine bn (have:=H0;dt) ?_
 refine dF ((Z27.md (kH a0)).map aQ) (rq (Z27.au (a0:=(kH a0)) ⟨(have:=jN a0;have:=H0;om),fun _ _=>trivial⟩)) ?_
 try simp only [SS]
 all_goals exact fz
def af:cZ 259 aN:=W1 6 F mix aD bC (dR Z27.af) Tryz.func259
def len (a0:cE):(md a0).length=1+a0.size:=by simp [md,Z27.len,jN]
end Z28
namespace Z29
inductive Pt where
 | p0 (a:Int) (b:bl) (c:ak)
def dM:Pt->List V
 | .p0 a b c=>[.bB 0 0,.own 1,.int .i64 a]
def fk:Pt->List aA
 | .p0 a b c=>[.box [.str b.cG,.int .i64 b.aP,.int .i64 b.dy,.sl none 9 b.cm],.row 3 c]
def step (J:Pt->az):Pt->az
 | .p0 a b c=>(cond (a<(b.cm.length:Int)) (m2 a (b.cm.length:Int) (call (Z28.R (AS b.cm (toNat a))) fun v1=>(dZ (gy (((c.length:Int)+(v1.length:Int))*8)) (J (.p0 (i64.wrap (a+1)) b (c++v1)))))) (ret (c:ak)))
def start (J:Pt->az)(x0:bl):az:=(call (Z28.R x0.cG) fun v1=>(dZ (gy (((v1.length:Int)+3)*8)) (J (.p0 0 x0 (v1++[[L.int x0.aP],[L.int x0.dy],[L.int (x0.cm.length:Int)]])))))
def live:Nat->Live:=kA [(3,nP [1,3,4])]
def md (a0:ah):List Int:=(((Z28.md a0.cG)++[a0.aP,a0.dy,(a0.cm.length:Int)])++a0.cm.flatMap (fun (y1:cE)=>(Z28.md y1)))
def gd (a0:ah):Prop:=(ah.Sm (2^21) a0)
def R:=RR gd md
def au {a0}(h:gd a0):R (ah.r a0)=some ((md a0).map aQ):=dJ h
def aN:=CN [.agg C1] (oL 3) RT.dec R
def bC (a0)(hg:gd a0):∃n,start (iter step n) (ah.r a0)=ret ((md a0).map aQ):=by
 unfold gd at hg
 have H0:=hg
 unfold start md
 try simp only [SS]
 refine cx (Z28.au H0.1) ?_
 try simp only [SS]
 refine iL (have:=Z28.len a0.cG;have:=H0.1;lm) ?_
 have Bh2:a0.cm.length<=maxLen:=(by
   have:=(H0.2).1
   try simp only [maxLen] at *
   omega)
 refine ex_eq (out:=(fun b:List Int=>ret ((b.map aQ):ak))) (xB (g:=fun (y1:cE)=>(Z28.md y1)) (z:=⟨#[]⟩) (t:=fun (s3:List Int)=>s3) (s:=((Z28.md a0.cG)++[a0.aP,a0.dy,(a0.cm.length:Int)]))) ?_
 refine eO (p:=Pt.p0 0 (ah.r a0) (((Z28.md a0.cG)++[a0.aP,a0.dy,(a0.cm.length:Int)]).map aQ)) fz ?_
 refine cH (pt:=fun (i1:Nat) (s3:List Int)=>Pt.p0 (i1:Int) (ah.r a0) (s3.map aQ)) (s:=(((Z28.md a0.cG)++[a0.aP,a0.dy,(a0.cm.length:Int)]):List Int)) (out:=(fun b:List Int=>ret ((b.map aQ):ak))) (fun (i1:Nat) (s3:List Int)=>s3.length<=4+a0.cG.size+i1*(2^21+1)) (fun J i1 s3 h2 hih2=>?_) (fun s3 hih2=>?_) (by
   have:=(H0.2).1
   have:=Z28.len a0.cG
   have:=H0.1
   try simp only [LN]
   try simp
   try omega)
 ·simp only [step,SS]
  have gr_:=hih2
  try simp only [LN] at gr_
  have:=H0.1
  have bb_:=Bh2
  simp only [maxLen] at bb_
  have:=(H0.2).1
  refine bp.yes (by apply decide_eq_true;omega) ?_
  refine bp.yes bJ ?_
  refine bp.yes (cA h2) ?_
  refine cr (Z28.au (cw.getD (z:=⟨#[]⟩) H0.2 h2)) ?_
  try simp only [SS]
  refine bp.yes (have:=Z28.len (a0.cm.getD i1 ⟨#[]⟩);have:=(cw.getD (z:=⟨#[]⟩) H0.2 h2);lm) ?_
  refine bp.inl (by
    have:=Z28.len (a0.cm.getD i1 ⟨#[]⟩)
    have:=(cw.getD (z:=⟨#[]⟩) H0.2 h2)
    have g_:=hih2
    try simp only [LN] at g_ ⊢
    first | omega | (simp;done) | (simp;omega)) ?_
  rw [aT h2 Bh2]
  all_goals exact fz
 ·simp only [step,SS]
  have gr_:=hih2
  try simp only [LN] at gr_
  have:=H0.1
  have:=(H0.2).1
  refine eM (by apply decide_eq_false;omega) ?_
  refine ⟨0,?_⟩
  all_goals exact fz
def af:cZ 251 aN:=L1 33 (fun _=>3) dM fk live step start mix aD bC (dR Z28.af) Tryz.func251
def uQ {a0:ah}(hg:gd a0):cw (2^43 - 1) (fun y:Int=>True) (md a0):=by
 unfold gd at hg
 refine ⟨?_,fun _ _=>trivial⟩
 unfold md
 have h1:=pY (xs:=a0.cm) (g:=fun y=>Z28.md y) (n:=2^21+1) (fun x hx=>by rw [Z28.len];have:=hg.2.2 x hx;omega)
 have h2:=hg.1
 have h3:=hg.2.1
 have h4:=Z28.len a0.cG
 simp only [List.length_append,List.length_cons,List.length_nil]
 omega
end Z29
namespace Z30
def F (x0:bl):az:=(call (Z29.R x0) fun v1=>(dZ (gy (((1:Int)+(v1.length:Int))*8)) (call (Z25.R ([[L.int 227]]++v1)) fun v2=>ret (v2:Int))))
def md (a0:ah):Int:=((Z25.md ([227]++(Z29.md a0))):Int)
def gd (a0:ah):Prop:=(ah.Sm (2^21) a0)
def R:=RR gd md
def au {a0}(h:gd a0):R (ah.r a0)=some (md a0):=dJ h
def aN:=CN [.agg C1] oI RT.dec R
def bC (a0)(hg:gd a0):F (ah.r a0)=ret (md a0):=by
 unfold gd at hg
 have H0:=hg
 unfold F md
 try simp only [SS]
 refine ct (Z29.au H0) ?_
 try simp only [SS]
 refine bn (have:=((Z29.uQ (a0:=a0) H0)).1;lm) ?_
 refine dF (Z25.md ([227]++(Z29.md a0))) (rq (Z25.au (a0:=([227]++(Z29.md a0))) ⟨(have:=((Z29.uQ (a0:=a0) H0)).1;om),fun _ _=>trivial⟩)) ?_
 all_goals exact fz
def af:cZ 236 aN:=W1 8 F mix aD bC (gD Z29.af Z25.af) Tryz.func236
end Z30
namespace Z31
inductive Pt where
 | p0 (a:ak) (b:Int) (c:ak)
def dM:Pt->List V
 | .p0 a b c=>[.sl none 53 a,.own 0,.int .i64 b]
def fk:Pt->List aA
 | .p0 a b c=>[.row 3 c]
def step (J:Pt->az):Pt->az
 | .p0 a b c=>(cond (b<(a.length:Int)) (m2 b (a.length:Int) (call (Z30.R (bl.at a (toNat b))) fun v1=>(dZ (gy (((c.length:Int)+1)*8)) (J (.p0 a (i64.wrap (b+1)) (c++[[L.int v1]])))))) (ret (c:ak)))
def start (J:Pt->az)(x0:ak):az:=J (.p0 x0 0 [])
def live:Nat->Live:=kA [(3,[(0,none),(3,some 3),(4,none)])]
def md (a0:List ah):List Int:=(a0.map (fun (y1:ah)=>(Z30.md y1)))
def gd (a0:List ah):Prop:=(cw (2^21) (fun y:ah=>ah.Sm (2^21) y) a0)
def R:=RR gd md
def au {a0}(h:gd a0):R (a0.map ah.row)=some ((md a0).map aQ):=dJ h
def aN:=CN [pL 53] (oL 3) RT.dec R
def bC (a0)(hg:gd a0):∃n,start (iter step n) (a0.map ah.row)=ret ((md a0).map aQ):=by
 unfold gd at hg
 have H0:=hg
 unfold start md
 try simp only [SS]
 have Bh2:a0.length<=maxLen:=(by
   have:=(H0).1
   try simp only [maxLen] at *
   omega)
 refine ex_eq (out:=(fun b:List Int=>ret ((b.map aQ):ak))) (xq (g:=fun (y1:ah)=>(Z30.md y1)) (z:=ah.zero) (t:=fun (s3:List Int)=>s3)) ?_
 refine eO (p:=Pt.p0 (a0.map ah.row) 0 ([].map aQ)) fz ?_
 refine cH (pt:=fun (i1:Nat) (s3:List Int)=>Pt.p0 (a0.map ah.row) (i1:Int) (s3.map aQ)) (s:=([]:List Int)) (out:=(fun b:List Int=>ret ((b.map aQ):ak))) (fun (i1:Nat) (s3:List Int)=>s3.length<=([]:List Int).length+1*i1) (fun J i1 s3 h2 hih2=>?_) (fun s3 hih2=>?_) (by simp)
 ·simp only [step,SS]
  have gr_:=hih2
  try simp only [LN] at gr_
  have bb_:=Bh2
  simp only [maxLen] at bb_
  have:=(H0).1
  refine bp.yes (by apply decide_eq_true;omega) ?_
  refine bp.yes bJ ?_
  refine bp.yes (cA h2) ?_
  refine cr (Z30.au (cw.getD (z:=ah.zero) H0 h2)) ?_
  refine bp.yes lm ?_
  refine bp.inl (by
    have g_:=hih2
    try simp only [LN] at g_ ⊢
    first | omega | (simp;done) | (simp;omega)) ?_
  rw [aT h2 Bh2]
  all_goals exact fz
 ·simp only [step,SS]
  have gr_:=hih2
  try simp only [LN] at gr_
  have:=(H0).1
  refine eM (by apply decide_eq_false;omega) ?_
  refine ⟨0,?_⟩
  all_goals exact fz
def af:cZ 220 aN:=L1 21 (fun _=>3) dM fk live step start mix aD bC (dR Z30.af) Tryz.func220
def len (a0:List ah):(md a0).length=a0.length:=by simp [md]
end Z31
namespace Z32
def F (x0 x1:Int):az:=(call (Z25.R [[L.int 229],[L.int x0],[L.int x1]]) fun v1=>ret (v1:Int))
def md (a0 a1:Int):Int:=((Z25.md [229,a0,a1]):Int)
def gd (a0 a1:Int):Prop:=True
def R:=dO gd md
def au {a0 a1}(h:gd a0 a1):R (a0,a1)=some (md a0 a1):=dN h
def aN:=CN [pI,pI] oI RT.dec R
def bC (a0)(a1)(hg:gd a0 a1):F a0 a1=ret (md a0 a1):=by
 unfold F md
 try simp only [SS]
 refine dF (Z25.md [229,a0,a1]) (rq (Z25.au (a0:=[229,a0,a1]) ⟨(om),fun _ _=>trivial⟩)) ?_
 all_goals exact fz
def af:cZ 250 aN:=W2 9 F mix aD bC (dR Z25.af) Tryz.func250
end Z32
namespace Z33
inductive Pt where
 | p0 (a:ak) (b:Int) (c:ak)
def dM:Pt->List V
 | .p0 a b c=>[.sl none 3 a,.own 0,.int .i64 b]
def fk:Pt->List aA
 | .p0 a b c=>[.row 3 c]
def step (J:Pt->az):Pt->az
 | .p0 a b c=>(cond (b<(a.length:Int)) (cond ((i64.wrap (b+1))<(a.length:Int)) (m2 b (a.length:Int) (dZ ((0:Int)<=(i64.wrap (b+1))) (dZ ((i64.wrap (b+1))<(a.length:Int)) (call (Z32.R ((ld a (toNat b)),(ld a (toNat (i64.wrap (b+1)))))) fun v1=>(dZ (gy (((c.length:Int)+1)*8)) (J (.p0 a (i64.wrap (b+2)) (c++[[L.int v1]])))))))) (m2 b (a.length:Int) (dZ (gy (((c.length:Int)+1)*8)) (J (.p0 a (i64.wrap (b+2)) (c++[[L.int (ld a (toNat b))]])))))) (ret (c:ak)))
def start (J:Pt->az)(x0:ak):az:=J (.p0 x0 0 [])
def live:Nat->Live:=kA [(3,[(0,none),(3,some 3),(4,none)])]
def up:List Int->List Int
 | []=>[]
 | [a]=>[a]
 | a::b::r=>Z32.md a b::up r
def sX:∀l:List Int,(up l).length=(l.length+1) / 2
 | []=>by simp [up]
 | [_]=>by simp [up]
 | _::_::r=>by
  have:=sX r
  simp only [up,List.length_cons]
  omega
def md (a0:List Int):List Int:=up a0
def gd (a0:List Int):Prop:=cw (2^38) (fun y:Int=>True) a0
def R:=RR gd md
def au {a0}(h:gd a0):R (a0.map aQ)=some ((md a0).map aQ):=dJ h
def aN:=CN [pL 3] (oL 3) RT.dec R
def bC (a0)(hg:gd a0):∃n,start (iter step n) (a0.map aQ)=ret ((md a0).map aQ):=by
 obtain ⟨H1,_⟩:=hg
 have key:∀(k i:Nat) (c:List Int),i+k=a0.length->c.length<=i->∃n,iter step n (Pt.p0 (a0.map aQ) (i:Int) (c.map aQ))=ret ((c++up (a0.drop i)).map aQ:ak):=by
  intro k
  induction k using Nat.strongRecOn with
  | _ k ih=>
  intro i c hi hc
  match k,hi,ih with
  | 0,hi,_=>
   refine ⟨1,?_⟩
   show step (iter step 0) (Pt.p0 _ _ _)=_
   simp only [step,List.length_map]
   refine gX (decide_eq_false (by omega)) ?_
   rw [List.drop_eq_nil_of_le (by omega)]
   simp only [up,List.append_nil]
  | 1,hi,ih=>
   obtain ⟨n,hn⟩:=ih 0 (by omega) (i+1) (c++[a0.getD i 0]) (by omega) (by simp;omega)
   have h2:∃n,iter step n (Pt.p0 (a0.map aQ) (i64.wrap ((i:Int)+2)) ((c++[a0.getD i 0]).map aQ))=ret ((c++[a0.getD i 0]).map aQ:ak):=by
    refine ⟨1,?_⟩
    show step (iter step 0) (Pt.p0 _ _ _)=_
    simp only [step,List.length_map]
    refine gX (decide_eq_false ?_) rfl
    rw [Go.IntWalk.i64_in _ (by omega)];omega
   obtain ⟨n,hn⟩:=h2
   refine ⟨n+1,?_⟩
   show step (iter step n) (Pt.p0 _ _ _)=_
   simp only [step,List.length_map,kB,ot]
   refine bn (decide_eq_true (by omega)) (gX (decide_eq_false ?_) (bn (decide_eq_true (by omega)) (bn (decide_eq_true (by omega)) (bn (gK (by omega)) ?_))))
   ·rw [Go.IntWalk.i64_in _ (by omega)];omega
   ·rw [List.map_append] at hn
    refine Eq.trans hn ?_
    rw [List.drop_eq_getElem_cons (by omega),List.drop_eq_nil_of_le (by omega),fE (by omega:i<a0.length)]
    simp only [up,List.map_append]
  | k+2,hi,ih=>
   obtain ⟨n,hn⟩:=ih k (by omega) (i+2) (c++[Z32.md (a0.getD i 0) (a0.getD (i+1) 0)]) (by omega) (by simp;omega)
   refine ⟨n+1,?_⟩
   show step (iter step n) (Pt.p0 _ _ _)=_
   have w1:i64.wrap ((i:Int)+1)=((i+1:Nat):Int):=by rw [Go.IntWalk.i64_in _ (by omega)];omega
   have w2:i64.wrap ((i:Int)+2)=((i+2:Nat):Int):=by rw [Go.IntWalk.i64_in _ (by omega)];omega
   simp only [step,List.length_map,w1,w2,kB,ot]
   refine bn (decide_eq_true (by omega)) (bn (decide_eq_true (by omega)) (bn (decide_eq_true (by omega)) (bn (decide_eq_true (by omega)) (bn (decide_eq_true (by omega)) (bn (decide_eq_true (by omega)) ?_)))))
   refine dF (Z32.md (a0.getD i 0) (a0.getD (i+1) 0)) (Z32.au trivial) (bn (gK (by omega)) ?_)
   rw [List.map_append] at hn
   refine Eq.trans hn ?_
   rw [List.drop_eq_getElem_cons (by omega:i<a0.length),List.drop_eq_getElem_cons (by omega:i+1<a0.length),fE (by omega:i<a0.length),fE (by omega:i+1<a0.length)]
   simp only [up,List.append_assoc,List.cons_append,List.nil_append]
 have:=key a0.length 0 [] (by omega) (by simp)
 unfold start md
 simpa using this
def af:cZ 235 aN:=L1 38 (fun _=>3) dM fk live step start mix aD bC (dR Z32.af) Tryz.func235
end Z33
namespace Z34
inductive Pt where
 | p0 (a:ak)
 | p1 (a:ak)
def dM:Pt->List V
 | .p0 a=>[.sl none 3 a]
 | .p1 a=>[.own 0]
def fk:Pt->List aA
 | .p0 a=>[]
 | .p1 a=>[.row 3 a]
def step (J:Pt->az):Pt->az
 | .p0 a=>(cond ((a.length:Int)>1) (call (Z33.R a) fun v1=>J (.p1 v1)) (dZ ((0:Int)<(a.length:Int)) (ret ((ld a 0):Int))))
 | .p1 a=>(cond ((a.length:Int)>1) (call (Z33.R a) fun v1=>J (.p1 v1)) (dZ ((0:Int)<(a.length:Int)) (ret ((ld a 0):Int))))
def start (J:Pt->az)(x0:ak):az:=(cond ((x0.length:Int)==0) (call (Z25.R [[L.int 229]]) fun v1=>ret (v1:Int)) (J (.p0 x0)))
def live:Nat->Live:=kA [(4,[(3,none)])]
def top:Nat->List Int->Int
 | 0,l=>l.getD 0 0
 | k+1,l=>if l.length>1 then top k (Z33.up l) else l.getD 0 0
def md (a0:List Int):Int:=(if a0.length=0 then Z25.md [229] else top a0.length a0)
def gd (a0:List Int):Prop:=cw (2^38) (fun y:Int=>True) a0
def R:=RR gd md
def au {a0}(h:gd a0):R (a0.map aQ)=some (md a0):=dJ h
def aN:=CN [pL 3] oI RT.dec R
def bC (a0)(hg:gd a0):∃n,start (iter step n) (a0.map aQ)=ret (md a0):=by
 have one:∀(l:List Int) (r:Int) (n:Nat),cw (2^38) (fun y:Int=>True) l->0<l.length->(if l.length>1 then iter step n (Pt.p1 ((Z33.up l).map aQ))=ret r else ret (l.getD 0 0:Int)=ret r)->step (iter step n) (Pt.p0 (l.map aQ))=ret r/\step (iter step n) (Pt.p1 (l.map aQ))=ret r:=by
  intro l r n hl hp h
  simp only [step,List.length_map,ot]
  by_cases h1:l.length>1
  ·rw [if_pos h1] at h
   have hx:∀y:az,(cond ((l.length:Int)>1) (call (Z33.R (l.map aQ)) (fun v1=>iter step n (Pt.p1 v1))) y)=ret r:=fun y=>
    bn (decide_eq_true (by omega)) (dF ((Z33.up l).map aQ) (Z33.au hl) h)
   exact ⟨hx _,hx _⟩
  ·rw [if_neg h1] at h
   have hx:∀y:az,(cond ((l.length:Int)>1) y (cond ((0:Int)<(l.length:Int)) (ret (l.getD 0 0:Int)) none))=ret r:=fun y=>
    gX (decide_eq_false (by omega)) (bn (decide_eq_true (by omega)) h)
   exact ⟨hx _,hx _⟩
 have key:∀(k:Nat) (l:List Int),cw (2^38) (fun y:Int=>True) l->0<l.length->l.length<=k+1->∃n,step (iter step n) (Pt.p0 (l.map aQ))=ret (top k l)/\step (iter step n) (Pt.p1 (l.map aQ))=ret (top k l):=by
  intro k
  induction k with
  | zero=>
   intro l hl hp hk
   exact ⟨0,one l _ 0 hl hp (by rw [if_neg (by omega)];rfl)⟩
  | succ k ih=>
   intro l hl hp hk
   by_cases h1:l.length>1
   ·have hu:=Z33.sX l
    have hl1:=hl.1
    obtain ⟨n,_,hn⟩:=ih (Z33.up l) ⟨by omega,fun _ _=>trivial⟩ (by omega) (by omega)
    refine ⟨n+1,one l _ (n+1) hl hp ?_⟩
    rw [if_pos h1]
    refine Eq.trans hn ?_
    unfold top
    rw [if_pos h1]
    cases k<;>rfl
   ·refine ⟨0,one l _ 0 hl hp ?_⟩
    rw [if_neg h1]
    unfold top
    rw [if_neg h1]
 unfold md
 unfold start
 simp only [List.length_map]
 by_cases h0:a0.length=0
 ·have e:((a0.length:Int)==0)=true:=by simpa using List.length_eq_zero_iff.1 h0
  refine ⟨0,?_⟩
  rw [e]
  refine dF (Z25.md [229]) (Z25.au (a0:=[229]) ⟨by decide,fun _ _=>trivial⟩) ?_
  rw [if_pos h0]
 ·have e:((a0.length:Int)==0)=false:=beq_eq_false_iff_ne.2 (by omega)
  obtain ⟨n,hn,_⟩:=key a0.length a0 hg (by omega) (by omega)
  refine ⟨n+1,?_⟩
  rw [e,if_neg h0]
  exact hn
def af:cZ 219 aN:=L1 18 (fun _=>4) dM fk live step start mix aD bC (gD Z25.af Z33.af) Tryz.func219
end Z34
namespace Z35
def F (x0 x1:Int):az:=(call (Z25.R [[L.int 231],[L.int x0],[L.int x1]]) fun v1=>ret (v1:Int))
def md (a0 a1:Int):Int:=((Z25.md [231,a0,a1]):Int)
def gd (a0 a1:Int):Prop:=True
def R:=dO gd md
def au {a0 a1}(h:gd a0 a1):R (a0,a1)=some (md a0 a1):=dN h
def aN:=CN [pI,pI] oI RT.dec R
def bC (a0)(a1)(hg:gd a0 a1):F a0 a1=ret (md a0 a1):=by
 unfold F md
 try simp only [SS]
 refine dF (Z25.md [231,a0,a1]) (rq (Z25.au (a0:=[231,a0,a1]) ⟨(om),fun _ _=>trivial⟩)) ?_
 all_goals exact fz
def af:cZ 218 aN:=W2 9 F mix aD bC (dR Z25.af) Tryz.func218
end Z35
namespace Z36
def F (x0:ak):az:=(call (Z31.R x0) fun v1=>(call (Z34.R v1) fun v2=>(call (Z35.R ((x0.length:Int),v2)) fun v3=>ret (v3:Int))))
def md (a0:List ah):Int:=((Z35.md (a0.length:Int) (Z34.md (Z31.md a0))):Int)
def gd (a0:List ah):Prop:=(cw (2^21) (fun y:ah=>ah.Sm (2^21) y) a0)
def R:=RR gd md
def au {a0}(h:gd a0):R (a0.map ah.row)=some (md a0):=dJ h
def aN:=CN [pL 53] oI RT.dec R
def bC (a0)(hg:gd a0):F (a0.map ah.row)=ret (md a0):=by
 unfold gd at hg
 have H0:=hg
 unfold F md
 try simp only [SS]
 refine ct (Z31.au H0) ?_
 try simp only [SS]
 refine ct (Z34.au ⟨(have:=Z31.len a0;have:=(H0).1;om),fun _ _=>trivial⟩) ?_
 refine ct (Z35.au trivial) ?_
 all_goals exact fz
def af:cZ 181 aN:=W1 9 F mix aD bC (pG Z31.af Z34.af Z35.af) Tryz.func181
end Z36
namespace Z37
def F (x0:aX):az:=(dZ (gy ((x0.aI.length:Int)*8)) (ret (x0:aX)))
def md (a0:aq):aq:=a0
def gd (a0:aq):Prop:=(aq.Sm (2^21) a0)
def R:=RR gd md
def au {a0}(h:gd a0):R (aq.r a0)=some (aq.r a0):=dJ h
def aN:=CN [.agg nR] (.agg f31) RT.dec R
def bC (a0)(hg:gd a0):F (aq.r a0)=ret (aq.r (md a0)):=by
 unfold gd at hg
 have H0:=hg
 unfold F md
 try simp only [SS]
 refine bn (have:=(H0).1;lm) ?_
 all_goals exact fz
def af:cZ 90 aN:=W1 10 F mix aD bC .nil Tryz.func90
end Z37
namespace Z38
inductive Pt where
 | p0 (a:Int) (b:aX)
def dM:Pt->List V
 | .p0 a b=>[.bB 0 0,.int .i64 a]
def fk:Pt->List aA
 | .p0 a b=>[.box [.sl none 3 b.aI,.int .i64 b.bS]]
def step (J:Pt->az):Pt->az
 | .p0 a b=>(cond (a<(b.aI.length:Int)) (m2 a (b.aI.length:Int) (call (Z15.R ((ld b.aI (toNat a)),1,99)) fun v1=>(cond (!v1) bL (cond (a>0) (dZ ((0:Int)<=(i64.wrap (a - 1))) (dZ ((i64.wrap (a - 1))<(b.aI.length:Int)) (m2 a (b.aI.length:Int) (cond ((ld b.aI (toNat (i64.wrap (a - 1))))>=(ld b.aI (toNat a))) bL (J (.p0 (i64.wrap (a+1)) b)))))) (J (.p0 (i64.wrap (a+1)) b)))))) (call (Z15.R ((b.aI.length:Int),1,4)) fun v2=>(cond v2 (call (Z15.R (b.bS,1,(b.aI.length:Int))) fun v3=>ret (v3:Bool)) bL)))
def start (J:Pt->az)(x0:aX):az:=J (.p0 0 x0)
def live:Nat->Live:=kA [(2,nP [1,3])]
def md (a0:aq):Bool:=(dX (S:=Unit) (β:=Bool) (fun (i1:Nat) (y1:Int) (s3:Unit)=>(cond (!(Z15.md y1 1 99)) (.inr (false:Bool)) (cond ((i1:Int)>0) (cond ((a0.aI.getD (toNat (i64.wrap ((i1:Int) - 1))) 0)>=y1) (.inr (false:Bool)) (.inl ())) (.inl ())))) (fun (s3:Unit)=>(cond (Z15.md (a0.aI.length:Int) 1 4) ((Z15.md a0.bS 1 (a0.aI.length:Int)):Bool) (false:Bool))) 0 a0.aI ())
def gd (a0:aq):Prop:=(aq.Sm (2^21) a0)
def R:=RR gd md
def au {a0}(h:gd a0):R (aq.r a0)=some (md a0):=dJ h
def aN:=CN [.agg nR] oB RT.dec R
def bC (a0)(hg:gd a0):∃n,start (iter step n) (aq.r a0)=ret (md a0):=by
 unfold gd at hg
 have H0:=hg
 unfold start md
 try simp only [SS]
 have Bh2:a0.aI.length<=maxLen:=(by
   have:=(H0).1
   try simp only [maxLen] at *
   omega)
 refine ex_eq (out:=ret) (cX (z:=0)) ?_
 refine eO (p:=Pt.p0 0 (aq.r a0)) fz ?_
 refine cH (pt:=fun (i1:Nat) (s3:Unit)=>Pt.p0 (i1:Int) (aq.r a0)) (s:=(():Unit)) (out:=ret) (fun _ _=>True) (fun J i1 s3 h2 hih2=>?_) (fun s3 hih2=>?_) trivial
 ·simp only [step,SS]
  have bb_:=Bh2
  simp only [maxLen] at bb_
  have:=(H0).1
  refine bp.yes (by apply decide_eq_true;omega) ?_
  refine bp.yes bJ ?_
  refine bp.yes (cA h2) ?_
  refine cr (Z15.au trivial) ?_
  refine bp.bif (fun _=>bp.inr rfl) (fun c4=>?_)
  have dc4:=c4
  try simp only [DC] at dc4
  have Dc4:=c4
  try simp [Z15.md] at Dc4
  refine bp.bif (fun c5=>?_) (fun c5=>?_)
  ·have dc5:=c5
   try simp only [DC] at dc5
   refine bp.yes dt ?_
   refine bp.yes (have:=(H0).1;dt) ?_
   refine bp.yes bJ ?_
   refine bp.yes (cA h2) ?_
   refine bp.bif (fun _=>bp.inr rfl) (fun c6=>?_)
   refine bp.inl trivial ?_
   rw [aT h2 Bh2]
   all_goals exact fz
  ·refine bp.inl trivial ?_
   rw [aT h2 Bh2]
   all_goals exact fz
 ·simp only [step,SS]
  have:=(H0).1
  refine eM (by apply decide_eq_false;omega) ?_
  refine cx (Z15.au trivial) ?_
  refine iJ ret (fun c7=>?_) (fun _=>⟨0,rfl⟩)
  refine cx (Z15.au trivial) ?_
  refine ⟨0,?_⟩
  all_goals exact fz
def af:cZ 168 aN:=L1 48 (fun _=>2) dM fk live step start mix aD bC (dR Z15.af) Tryz.func168
def tr {a0:aq}(h:md a0=true):1<=a0.aI.length/\a0.aI.length<=4:=by
 refine Classical.byContradiction fun hc=>?_
 have e1:Z15.md (a0.aI.length:Int) 1 4=false:=by simp [Z15.md];omega
 unfold md at h
 rw [e1] at h
 have e2:∀s:Unit,(cond false (Z15.md a0.bS 1 (a0.aI.length:Int)) false)=false:=fun _=>rfl
 have h3:=lO (c:=false) (f:=fun (i1:Nat) (y1:Int) (s3:Unit)=>(cond (!(Z15.md y1 1 99)) (.inr (false:Bool)) (cond ((i1:Int)>0) (cond ((a0.aI.getD (toNat (i64.wrap ((i1:Int) - 1))) 0)>=y1) (.inr (false:Bool)) (.inl ())) (.inl ())))) (by
  intro i x s b h
  revert h
  simp only [Bool.cond_eq_ite]
  repeat' split
  all_goals (intro h;first | (cases h;rfl) | cases h)) a0.aI 0 ()
 simp only [aL] at h
 rw [h3] at h
 cases h
end Z38
namespace Z39
def F (x0:aX):az:=(cond (x0.bS==0) (ret (((x0.aI.length:Int)==0):Bool)) bL)
def md (a0:aq):Bool:=(cond (a0.bS==0) (((a0.aI.length:Int)==0):Bool) (false:Bool))
def gd (a0:aq):Prop:=True
def R:=RR gd md
def au {a0}(h:gd a0):R (aq.r a0)=some (md a0):=dJ h
def aN:=CN [.agg nR] oB RT.dec R
def bC (a0)(hg:gd a0):F (aq.r a0)=ret (md a0):=by
 unfold F md
 try simp only [SS]
 refine av ret (fun c1=>?_) (fun _=>rfl)
 all_goals exact fz
def af:cZ 169 aN:=W1 12 F mix aD bC .nil Tryz.func169
end Z39
namespace Z40
def F (x0:aR):az:=(call (Z15.R (x0.bq,0,2147483646)) fun v1=>(cond (!v1) bL (call (Z15.R (x0.bE,0,2147483646)) fun v2=>(cond (!v2) bL (call (Z15.R (x0.bW,0,2147483646)) fun v3=>(cond (!v3) bL (call (Z15.R (x0.aY,0,200)) fun v4=>(cond (!v4) bL (call (Z15.R (x0.aP,1,3)) fun v5=>(cond (!v5) bL (call (Z15.R (x0.aO,0,100000)) fun v6=>(cond (!v6) bL (call (Z15.R (x0.aZ,x0.aO,100000)) fun v7=>(cond (!v7) bL (cond ((i64.wrap (x0.aZ - x0.aO))>200) bL (call (Z15.R (x0.bk,0,12)) fun v8=>(cond (!v8) bL (call (Z38.R x0.aE) fun v9=>(cond (!v9) bL (call (Z39.R x0.aM) fun v10=>(cond v10 (cond (x0.bu != 0) bL (call (Z38.R x0.aK) fun v11=>(cond v11 oz (call (Z39.R x0.aK) fun v12=>(cond v12 (ret ((!x0.aH):Bool)) bL))))) (call (Z38.R x0.aM) fun v13=>(cond (!v13) bL (call (Z15.R (x0.bu,1,500)) fun v14=>(cond (!v14) bL (call (Z38.R x0.aK) fun v15=>(cond v15 oz (call (Z39.R x0.aK) fun v16=>(cond v16 (ret ((!x0.aH):Bool)) bL)))))))))))))))))))))))))))))
def md (a0:aj):Bool:=(cond (!(Z15.md a0.bq 0 2147483646)) (false:Bool) (cond (!(Z15.md a0.bE 0 2147483646)) (false:Bool) (cond (!(Z15.md a0.bW 0 2147483646)) (false:Bool) (cond (!(Z15.md a0.aY 0 200)) (false:Bool) (cond (!(Z15.md a0.aP 1 3)) (false:Bool) (cond (!(Z15.md a0.aO 0 100000)) (false:Bool) (cond (!(Z15.md a0.aZ a0.aO 100000)) (false:Bool) (cond ((i64.wrap (a0.aZ - a0.aO))>200) (false:Bool) (cond (!(Z15.md a0.bk 0 12)) (false:Bool) (cond (!(Z38.md a0.aE)) (false:Bool) (cond (Z39.md a0.aM) (cond (a0.bu != 0) (false:Bool) (cond (Z38.md a0.aK) (true:Bool) (cond (Z39.md a0.aK) ((!a0.aH):Bool) (false:Bool)))) (cond (!(Z38.md a0.aM)) (false:Bool) (cond (!(Z15.md a0.bu 1 500)) (false:Bool) (cond (Z38.md a0.aK) (true:Bool) (cond (Z39.md a0.aK) ((!a0.aH):Bool) (false:Bool))))))))))))))))
def gd (a0:aj):Prop:=(aj.Sm (2^21) a0)
def R:=RR gd md
def au {a0}(h:gd a0):R (aj.r a0)=some (md a0):=dJ h
def aN:=CN [.agg nQ] oB RT.dec R
def bC (a0)(hg:gd a0):F (aj.r a0)=ret (md a0):=by
 unfold gd at hg
 have H0:=hg
 unfold F md
 try simp only [SS]
 refine ct (Z15.au trivial) ?_
 refine av ret (fun _=>rfl) (fun c1=>?_)
 refine ct (Z15.au trivial) ?_
 refine av ret (fun _=>rfl) (fun c2=>?_)
 refine ct (Z15.au trivial) ?_
 refine av ret (fun _=>rfl) (fun c3=>?_)
 refine ct (Z15.au trivial) ?_
 refine av ret (fun _=>rfl) (fun c4=>?_)
 refine ct (Z15.au trivial) ?_
 refine av ret (fun _=>rfl) (fun c5=>?_)
 refine ct (Z15.au trivial) ?_
 refine av ret (fun _=>rfl) (fun c6=>?_)
 refine ct (Z15.au trivial) ?_
 refine av ret (fun _=>rfl) (fun c7=>?_)
 refine av ret (fun _=>rfl) (fun c8=>?_)
 refine ct (Z15.au trivial) ?_
 refine av ret (fun _=>rfl) (fun c9=>?_)
 refine ct (Z38.au H0.1) ?_
 refine av ret (fun _=>rfl) (fun c10=>?_)
 refine ct (Z39.au trivial) ?_
 refine av ret (fun c11=>?_) (fun c11=>?_)
 ·refine av ret (fun _=>rfl) (fun c12=>?_)
  refine ct (Z38.au H0.2.2) ?_
  refine av ret (fun _=>rfl) (fun c13=>?_)
  refine ct (Z39.au trivial) ?_
  refine av ret (fun c14=>?_) (fun _=>rfl)
  all_goals exact fz
 ·refine ct (Z38.au H0.2.1) ?_
  refine av ret (fun _=>rfl) (fun c15=>?_)
  refine ct (Z15.au trivial) ?_
  refine av ret (fun _=>rfl) (fun c16=>?_)
  refine ct (Z38.au H0.2.2) ?_
  refine av ret (fun _=>rfl) (fun c17=>?_)
  refine ct (Z39.au trivial) ?_
  refine av ret (fun c18=>?_) (fun _=>rfl)
  all_goals exact fz
def af:cZ 133 aN:=W1 92 F mix aD bC (pG Z15.af Z38.af Z39.af) Tryz.func133
def tr {a0:aj}(h:md a0=true):(1<=a0.aP/\a0.aP<=3)/\0<=a0.aO/\a0.aO<=a0.aZ/\a0.aZ<=100000/\0<=a0.bk/\a0.bk<=12:=by
 have key:∀x y z:Int,Z15.md x y z=true->y<=x/\x<=z:=fun x y z h=>by simpa [Z15.md] using h
 unfold md at h
 simp only [CZ,Bool.not_not,Bool.and_eq_true] at h
 obtain ⟨_,_,_,_,h5,h6,h7,_,h8,_⟩:=h
 have:=key _ _ _ h5
 have:=key _ _ _ h6
 have:=key _ _ _ h7
 have:=key _ _ _ h8
 omega
end Z40
namespace Z41
def F (x0:aX)(x1:Int)(x2:ak)(x3 x4:Int):az:=(call (Z19.R x2) fun v1=>(cond (!v1) (ret (((⟨0,0,0,0,0,0,0,0,(⟨[],0⟩:aX),(⟨[],0⟩:aX),0,(⟨[],0⟩:aX),false⟩:aR),false):aR×Bool)) (call (Z15.R (x3,0,100000)) fun v2=>(cond (!v2) (ret (((⟨0,0,0,0,0,0,0,0,(⟨[],0⟩:aX),(⟨[],0⟩:aX),0,(⟨[],0⟩:aX),false⟩:aR),false):aR×Bool)) (call (Z15.R (x4,0,200)) fun v3=>(cond (!v3) (ret (((⟨0,0,0,0,0,0,0,0,(⟨[],0⟩:aX),(⟨[],0⟩:aX),0,(⟨[],0⟩:aX),false⟩:aR),false):aR×Bool)) (call (Z26.R (x0,x1)) fun v4=>(call (Z36.R x2) fun v5=>(call (Z37.R x0) fun v6=>(call (Z40.R (⟨v4,0,1,x3,(i64.wrap (x3+x4)),(x2.length:Int),v5,x1,v6,(⟨[],0⟩:aX),0,(⟨[],0⟩:aX),false⟩:aR)) fun v7=>(cond (!v7) (ret (((⟨0,0,0,0,0,0,0,0,(⟨[],0⟩:aX),(⟨[],0⟩:aX),0,(⟨[],0⟩:aX),false⟩:aR),false):aR×Bool)) (ret (((⟨v4,0,1,x3,(i64.wrap (x3+x4)),(x2.length:Int),v5,x1,v6,(⟨[],0⟩:aX),0,(⟨[],0⟩:aX),false⟩:aR),true):aR×Bool)))))))))))))
def md (a0:aq)(a1:Int)(a2:List ah)(a3 a4:Int):aj×Bool:=(cond (!(Z19.md a2)) ((⟨0,0,0,0,0,0,0,0,(⟨[],0⟩:aq),(⟨[],0⟩:aq),0,(⟨[],0⟩:aq),false⟩:aj),false) (cond (!(Z15.md a3 0 100000)) ((⟨0,0,0,0,0,0,0,0,(⟨[],0⟩:aq),(⟨[],0⟩:aq),0,(⟨[],0⟩:aq),false⟩:aj),false) (cond (!(Z15.md a4 0 200)) ((⟨0,0,0,0,0,0,0,0,(⟨[],0⟩:aq),(⟨[],0⟩:aq),0,(⟨[],0⟩:aq),false⟩:aj),false) (cond (!(Z40.md (⟨(Z26.md a0 a1),0,1,a3,(i64.wrap (a3+a4)),(a2.length:Int),(Z36.md a2),a1,a0,(⟨[],0⟩:aq),0,(⟨[],0⟩:aq),false⟩:aj))) ((⟨0,0,0,0,0,0,0,0,(⟨[],0⟩:aq),(⟨[],0⟩:aq),0,(⟨[],0⟩:aq),false⟩:aj),false) ((⟨(Z26.md a0 a1),0,1,a3,(i64.wrap (a3+a4)),(a2.length:Int),(Z36.md a2),a1,a0,(⟨[],0⟩:aq),0,(⟨[],0⟩:aq),false⟩:aj),true)))))
def gd (a0:aq)(a1:Int)(a2:List ah)(a3 a4:Int):Prop:=(aq.Sm (2^21) a0)/\(cw (2^21) (fun y:ah=>ah.Sm (2^21) y) a2)
def R:=DD gd md
def au {a0 a1 a2 a3 a4}(h:gd a0 a1 a2 a3 a4):R ((aq.r a0),a1,(a2.map ah.row),a3,a4)=some ((aj.r (md a0 a1 a2 a3 a4).1),(md a0 a1 a2 a3 a4).2):=Dn h
def aN:=CN [.agg nR,pI,pL 53,pI,pI] (.gL [(true,f35),(false,[fB])]) RT.dec R
def bC (a0)(a1)(a2)(a3)(a4)(hg:gd a0 a1 a2 a3 a4):F (aq.r a0) a1 (a2.map ah.row) a3 a4=ret ((aj.r (md a0 a1 a2 a3 a4).1),(md a0 a1 a2 a3 a4).2):=by
 obtain ⟨H0,H2⟩:=hg
 unfold F md
 try simp only [SS]
 refine ct (Z19.au H2) ?_
 refine av (fun b:aj×Bool=>ret (((aj.r b.1),b.2):aR×Bool)) (fun c1=>?_) (fun c1=>?_)
 ·all_goals exact fz
 ·refine ct (Z15.au trivial) ?_
  refine av (fun b:aj×Bool=>ret (((aj.r b.1),b.2):aR×Bool)) (fun c2=>?_) (fun c2=>?_)
  ·all_goals exact fz
  ·refine ct (Z15.au trivial) ?_
   refine av (fun b:aj×Bool=>ret (((aj.r b.1),b.2):aR×Bool)) (fun c3=>?_) (fun c3=>?_)
   ·all_goals exact fz
   ·refine ct (Z26.au H0) ?_
    refine ct (Z36.au H2) ?_
    refine ct (Z37.au H0) ?_
    try simp only [SS]
    have h1:aj.Sm (2^21) ((⟨(Z26.md a0 a1),0,1,a3,(i64.wrap (a3+a4)),(a2.length:Int),(Z36.md a2),a1,a0,(⟨[],0⟩:aq),0,(⟨[],0⟩:aq),false⟩:aj)):=⟨H0,cw.nil,cw.nil⟩
    have h2:=Z40.au (a0:=(⟨(Z26.md a0 a1),0,1,a3,(i64.wrap (a3+a4)),(a2.length:Int),(Z36.md a2),a1,a0,(⟨[],0⟩:aq),0,(⟨[],0⟩:aq),false⟩:aj)) h1
    simp only [aj.r] at h2
    refine ct h2 ?_
    refine av (fun b:aj×Bool=>ret (((aj.r b.1),b.2):aR×Bool)) (fun c4=>?_) (fun c4=>?_)
    ·all_goals exact fz
    ·simp only [aj.r];rfl
def af:cZ 179 aN:=W5 47 F mix aD bC (Db Z19.af Z15.af Z26.af Z36.af Z37.af Z40.af) Tryz.func179
def sk {k:Nat}{a0:aq}{a1:Int}{a2:List ah}{a3 a4:Int}(h:aq.Sm k a0):aj.Sm k (md a0 a1 a2 a3 a4).1:=by
 have z:aj.Sm k ⟨0,0,0,0,0,0,0,0,⟨[],0⟩,⟨[],0⟩,0,⟨[],0⟩,false⟩:=⟨cw.nil,cw.nil,cw.nil⟩
 unfold md
 cases (!(Z19.md a2))<;>simp only [aC,aL]
 ·cases (!(Z15.md a3 0 100000))<;>simp only [aC,aL]
  ·cases (!(Z15.md a4 0 200))<;>simp only [aC,aL]
   ·cases (!(Z40.md _))<;>simp only [aC,aL]
    ·exact ⟨h,cw.nil,cw.nil⟩
    ·exact z
   ·exact z
  ·exact z
 ·exact z
end Z41
namespace Z42
def F (x0:aR):az:=(call (Z37.R x0.aE) fun v1=>(call (Z37.R x0.aM) fun v2=>(call (Z37.R x0.aK) fun v3=>ret ((⟨x0.bq,x0.aY,x0.aP,x0.aO,x0.aZ,x0.bk,x0.bE,x0.bW,v1,v2,x0.bu,v3,x0.aH⟩:aR):aR))))
def md (a0:aj):aj:=a0
def gd (a0:aj):Prop:=(aj.Sm (2^21) a0)
def R:=RR gd md
def au {a0}(h:gd a0):R (aj.r a0)=some (aj.r a0):=dJ h
def aN:=CN [.agg nQ] (.agg f35) RT.dec R
def bC (a0)(hg:gd a0):F (aj.r a0)=ret (aj.r (md a0)):=by
 unfold gd at hg
 have H0:=hg
 unfold F md
 try simp only [SS]
 refine ct (Z37.au H0.1) ?_
 try simp only [SS]
 refine ct (Z37.au H0.2.1) ?_
 try simp only [SS]
 refine ct (Z37.au H0.2.2) ?_
 try simp only [SS]
 all_goals exact fz
def af:cZ 39 aN:=W1 18 F mix aD bC (dR Z37.af) Tryz.func39
end Z42
namespace Z43
def F (x0:aR):az:=(call (Z23.R x0.aE) fun v1=>(dZ (gy (((8:Int)+(v1.length:Int))*8)) (call (Z23.R x0.aM) fun v2=>(dZ (gy (((([[L.int x0.bq],[L.int x0.aY],[L.int x0.aP],[L.int x0.aO],[L.int x0.aZ],[L.int x0.bk],[L.int x0.bE],[L.int x0.bW]]++v1).length:Int)+(v2.length:Int))*8)) (dZ (gy ((((([[L.int x0.bq],[L.int x0.aY],[L.int x0.aP],[L.int x0.aO],[L.int x0.aZ],[L.int x0.bk],[L.int x0.bE],[L.int x0.bW]]++v1)++v2).length:Int)+1)*8)) (call (Z23.R x0.aK) fun v3=>(dZ (gy (((((([[L.int x0.bq],[L.int x0.aY],[L.int x0.aP],[L.int x0.aO],[L.int x0.aZ],[L.int x0.bk],[L.int x0.bE],[L.int x0.bW]]++v1)++v2)++[[L.int x0.bu]]).length:Int)+(v3.length:Int))*8)) (cond x0.aH (dZ (gy ((((((([[L.int x0.bq],[L.int x0.aY],[L.int x0.aP],[L.int x0.aO],[L.int x0.aZ],[L.int x0.bk],[L.int x0.bE],[L.int x0.bW]]++v1)++v2)++[[L.int x0.bu]])++v3).length:Int)+1)*8)) (ret (((((([[L.int x0.bq],[L.int x0.aY],[L.int x0.aP],[L.int x0.aO],[L.int x0.aZ],[L.int x0.bk],[L.int x0.bE],[L.int x0.bW]]++v1)++v2)++[[L.int x0.bu]])++v3)++[[L.int 1]]):ak))) (dZ (gy ((((((([[L.int x0.bq],[L.int x0.aY],[L.int x0.aP],[L.int x0.aO],[L.int x0.aZ],[L.int x0.bk],[L.int x0.bE],[L.int x0.bW]]++v1)++v2)++[[L.int x0.bu]])++v3).length:Int)+1)*8)) (ret (((((([[L.int x0.bq],[L.int x0.aY],[L.int x0.aP],[L.int x0.aO],[L.int x0.aZ],[L.int x0.bk],[L.int x0.bE],[L.int x0.bW]]++v1)++v2)++[[L.int x0.bu]])++v3)++[[L.int 0]]):ak)))))))))))
def md (a0:aj):List Int:=(cond a0.aH ((((([a0.bq,a0.aY,a0.aP,a0.aO,a0.aZ,a0.bk,a0.bE,a0.bW]++(Z23.md a0.aE))++(Z23.md a0.aM))++[a0.bu])++(Z23.md a0.aK))++[1]) ((((([a0.bq,a0.aY,a0.aP,a0.aO,a0.aZ,a0.bk,a0.bE,a0.bW]++(Z23.md a0.aE))++(Z23.md a0.aM))++[a0.bu])++(Z23.md a0.aK))++[0]))
def gd (a0:aj):Prop:=(aj.Sm (2^21) a0)
def R:=RR gd md
def au {a0}(h:gd a0):R (aj.r a0)=some ((md a0).map aQ):=dJ h
def aN:=CN [.agg nQ] (oL 3) RT.dec R
def bC (a0)(hg:gd a0):F (aj.r a0)=ret ((md a0).map aQ):=by
 unfold gd at hg
 have H0:=hg
 unfold F md
 try simp only [SS]
 refine ct (Z23.au H0.1) ?_
 try simp only [SS]
 refine bn (have:=Z23.len a0.aE;have:=(H0.1).1;lm) ?_
 refine ct (Z23.au H0.2.1) ?_
 try simp only [SS]
 refine bn (have:=Z23.len a0.aE;have:=(H0.1).1;have:=Z23.len a0.aM;have:=(H0.2.1).1;lm) ?_
 refine bn (have:=Z23.len a0.aE;have:=(H0.1).1;have:=Z23.len a0.aM;have:=(H0.2.1).1;lm) ?_
 refine ct (Z23.au H0.2.2) ?_
 try simp only [SS]
 refine bn (have:=Z23.len a0.aE;have:=(H0.1).1;have:=Z23.len a0.aM;have:=(H0.2.1).1;have:=Z23.len a0.aK;have:=(H0.2.2).1;lm) ?_
 refine av (fun b:List Int=>ret ((b.map aQ):ak)) (fun c1=>?_) (fun c1=>?_)
 ·refine bn (have:=Z23.len a0.aE;have:=(H0.1).1;have:=Z23.len a0.aM;have:=(H0.2.1).1;have:=Z23.len a0.aK;have:=(H0.2.2).1;lm) ?_
  all_goals exact fz
 ·refine bn (have:=Z23.len a0.aE;have:=(H0.1).1;have:=Z23.len a0.aM;have:=(H0.2.1).1;have:=Z23.len a0.aK;have:=(H0.2.2).1;lm) ?_
  all_goals exact fz
def af:cZ 136 aN:=W1 49 F mix aD bC (dR Z23.af) Tryz.func136
def len (a0:aj):(md a0).length=16+a0.aE.aI.length+a0.aM.aI.length+a0.aK.aI.length:=by unfold md;cases a0.aH<;>simp [Z23.md]<;>omega
def Be (a:aj):md a=a.bq::a.aY::a.aP::a.aO::a.aZ::a.bk::a.bE::a.bW::(Z23.md a.aE++(Z23.md a.aM++(a.bu::(Z23.md a.aK++[bif a.aH then 1 else 0])))):=by
 unfold md
 cases a.aH<;>simp only [aC,aL,List.append_assoc,List.cons_append,List.nil_append]
end Z43
namespace Z44
inductive Pt where
 | p0 (a:ak) (b c:Int)
def dM:Pt->List V
 | .p0 a b c=>[.sl none 3 a,.int .i64 b,.int .i64 c]
def step (J:Pt->az):Pt->az
 | .p0 a b c=>(cond (c<(a.length:Int)) (m2 c (a.length:Int) (cond ((ld a (toNat c))==b) oz (J (.p0 a b (i64.wrap (c+1)))))) bL)
def start (J:Pt->az)(x0:ak)(x1:Int):az:=J (.p0 x0 x1 0)
def live:Nat->Live:=kA [(2,nP [0,1,5])]
def md (a0:List Int)(a1:Int):Bool:=(dP (S:=Unit) (β:=Bool) (fun (y1:Int) (s3:Unit)=>(cond (y1==a1) (.inr (true:Bool)) (.inl ()))) (fun (s3:Unit)=>(false:Bool)) a0 ())
def gd (a0:List Int)(a1:Int):Prop:=(cw (2^38) (fun y:Int=>True) a0)
def R:=dO gd md
def au {a0 a1}(h:gd a0 a1):R ((a0.map aQ),a1)=some (md a0 a1):=dN h
def aN:=CN [pL 3,pI] oB RT.dec R
def bC (a0)(a1)(hg:gd a0 a1):∃n,start (iter step n) (a0.map aQ) a1=ret (md a0 a1):=by
 unfold gd at hg
 have H0:=hg
 unfold start md
 try simp only [SS]
 have Bh2:a0.length<=maxLen:=(by
   have:=(H0).1
   try simp only [maxLen] at *
   omega)
 refine ex_eq (out:=ret) (dx (z:=0)) ?_
 refine eO (p:=Pt.p0 (a0.map aQ) a1 0) fz ?_
 refine cH (pt:=fun (i1:Nat) (s3:Unit)=>Pt.p0 (a0.map aQ) a1 (i1:Int)) (s:=(():Unit)) (out:=ret) (fun _ _=>True) (fun J i1 s3 h2 hih2=>?_) (fun s3 hih2=>?_) trivial
 ·simp only [step,SS]
  have bb_:=Bh2
  simp only [maxLen] at bb_
  have:=(H0).1
  refine bp.yes (by apply decide_eq_true;omega) ?_
  refine bp.yes bJ ?_
  refine bp.yes (cA h2) ?_
  refine bp.bif (fun _=>bp.inr rfl) (fun c4=>?_)
  refine bp.inl trivial ?_
  rw [aT h2 Bh2]
  all_goals exact fz
 ·simp only [step,SS]
  have:=(H0).1
  refine eM (by apply decide_eq_false;omega) ?_
  refine ⟨0,?_⟩
  all_goals exact fz
def af:cZ 100 aN:=L2 18 (fun _=>2) dM (fun _=>[]) live step start mix aD bC .nil Tryz.func100
end Z44
namespace Z45
def F (x0:Int)(x1:ak):az:=(dZ (gy (((1:Int)+(x1.length:Int))*8)) (dZ (gy (((([[L.int x0]]++x1).length:Int)+1)*8)) (call (Z25.R (([[L.int x0]]++x1)++[[L.int x0]])) fun v1=>ret (v1:Int))))
def md (a0:Int)(a1:List Int):Int:=((Z25.md (([a0]++a1)++[a0])):Int)
def gd (a0:Int)(a1:List Int):Prop:=(cw (2^40) (fun y:Int=>True) a1)
def R:=dO gd md
def au {a0 a1}(h:gd a0 a1):R (a0,(a1.map aQ))=some (md a0 a1):=dN h
def aN:=CN [pI,pL 3] oI RT.dec R
def bC (a0)(a1)(hg:gd a0 a1):F a0 (a1.map aQ)=ret (md a0 a1):=by
 unfold gd at hg
 have H1:=hg
 unfold F md
 try simp only [SS]
 refine bn (have:=(H1).1;lm) ?_
 refine bn (have:=(H1).1;lm) ?_
 refine dF (Z25.md (([a0]++a1)++[a0])) (rq (Z25.au (a0:=(([a0]++a1)++[a0])) ⟨(have:=(H1).1;om),fun _ _=>trivial⟩)) ?_
 all_goals exact fz
def af:cZ 237 aN:=W2 13 F mix aD bC (dR Z25.af) Tryz.func237
end Z45
namespace Z46
def F (x0:Int)(x1:ak):az:=(dZ (gy (((1:Int)+(x1.length:Int))*8)) (call (Z45.R (x0,([[L.int 223]]++x1))) fun v1=>ret (v1:Int)))
def md (a0:Int)(a1:List Int):Int:=((Z45.md a0 ([223]++a1)):Int)
def gd (a0:Int)(a1:List Int):Prop:=(cw (2^39) (fun y:Int=>True) a1)
def R:=dO gd md
def au {a0 a1}(h:gd a0 a1):R (a0,(a1.map aQ))=some (md a0 a1):=dN h
def aN:=CN [pI,pL 3] oI RT.dec R
def bC (a0)(a1)(hg:gd a0 a1):F a0 (a1.map aQ)=ret (md a0 a1):=by
 unfold gd at hg
 have H1:=hg
 unfold F md
 try simp only [SS]
 refine bn (have:=(H1).1;lm) ?_
 refine dF (Z45.md a0 ([223]++a1)) (rq (Z45.au (a0:=a0) (a1:=([223]++a1)) ⟨(have:=(H1).1;om),fun _ _=>trivial⟩)) ?_
 all_goals exact fz
def af:cZ 221 aN:=W2 10 F mix aD bC (dR Z45.af) Tryz.func221
end Z46
namespace Z47
inductive Pt where
 | p0 (a b:ak) (c:Int) (d:aX) (e:ak)
def dM:Pt->List V
 | .p0 a b c d e=>[.sl none 3 a,.sl none 3 b,.bB 0 0,.own 1,.int .i64 c]
def fk:Pt->List aA
 | .p0 a b c d e=>[.box [.sl none 3 d.aI,.int .i64 d.bS],.row 209 e]
def step (J:Pt->az):Pt->az
 | .p0 a b c d e=>(cond (c<(d.aI.length:Int)) (m2 c (d.aI.length:Int) (call (Z44.R (a,(ld d.aI (toNat c)))) fun v1=>(cond v1 (m2 c (d.aI.length:Int) (m2 c (d.aI.length:Int) (call (Z46.R ((ld d.aI (toNat c)),b)) fun v2=>(dZ (gy (((e.length:Int)+1)*16)) (J (.p0 a b (i64.wrap (c+1)) d (e++[(bf.enc (⟨(ld d.aI (toNat c)),v2⟩:bf))]))))))) (J (.p0 a b (i64.wrap (c+1)) d e))))) (ret (e:ak)))
def start (J:Pt->az)(x0:ak)(x1:aX)(x2:ak):az:=J (.p0 x0 x2 0 x1 [])
def live:Nat->Live:=kA [(3,[(0,none),(2,none),(4,none),(7,some 209),(8,none)])]
def md (a0:List Int)(a1:aq)(a2:List Int):List bf:=(dP (S:=List bf) (β:=List bf) (fun (y1:Int) (s3:List bf)=>(cond (Z44.md a0 y1) (.inl (s3++[(⟨y1,(Z46.md y1 a2)⟩:bf)])) (.inl s3))) (fun (s3:List bf)=>s3) a1.aI [])
def gd (a0:List Int)(a1:aq)(a2:List Int):Prop:=(cw (2^38) (fun y:Int=>True) a0)/\(aq.Sm (2^21) a1)/\(cw (2^38) (fun y:Int=>True) a2)
def R:=qE gd md
def au {a0 a1 a2}(h:gd a0 a1 a2):R ((a0.map aQ),(aq.r a1),(a2.map aQ))=some ((md a0 a1 a2).map bf.row):=qB h
def aN:=CN [pL 3,.agg nR,pL 3] (oL 209) RT.dec R
def bC (a0) (a1) (a2) (hg : gd a0 a1 a2) : ∃ n, start (iter step n) (a0.map aQ) (aq.r a1) (a2.map aQ) = ret ((md a0 a1 a2).map bf.row) := by
  obtain ⟨H0, H1, H2⟩ := hg
  unfold start md
  try simp only [SS]
  have Bh2 : a1.aI.length <= maxLen := (by
      have := (H1).1
      try simp only [maxLen] at *
      omega)
  refine ex_eq (out := (fun b : List bf => ret ((b.map bf.row) : ak))) (dx (z := 0)) ?_
  refine eO (p := Pt.p0 (a0.map aQ) (a2.map aQ) 0 (aq.r a1) ([].map bf.row)) fz ?_
  refine cH (pt := fun (i1 : Nat) (s3 : List bf) => Pt.p0 (a0.map aQ) (a2.map aQ) (i1 : Int) (aq.r a1) (s3.map bf.row)) (s := ([] : List bf)) (out := (fun b : List bf => ret ((b.map bf.row) : ak))) (fun (i1 : Nat) (s3 : List bf) => s3.length <= ([] : List Int).length + 1 * i1) (fun J i1 s3 h2 hih2 => ?_) (fun s3 hih2 => ?_) (by simp)
  · simp only [step, SS]
    have gr_ := hih2
    try simp only [LN] at gr_
    have bb_ := Bh2
    simp only [maxLen] at bb_
    have := (H1).1
    refine bp.yes (by apply decide_eq_true; omega) ?_
    refine bp.yes bJ ?_
    refine bp.yes (cA h2) ?_
    refine cr (Z44.au H0) ?_
    refine bp.bif (fun c4 => ?_) (fun c4 => ?_)
    · refine bp.yes bJ ?_
      refine bp.yes (cA h2) ?_
      refine bp.yes bJ ?_
      refine bp.yes (cA h2) ?_
      refine cr (Z46.au (H2.mono (by decide) (fun x hx => trivial))) ?_
      refine bp.yes lm ?_
      refine bp.inl (by
          have g_ := hih2
          try simp only [LN] at g_ ⊢
          first | omega | (simp; done) | (simp; omega)) ?_
      rw [aT h2 Bh2]
      all_goals exact fz
    · refine bp.inl (by
          have g_ := hih2
          try simp only [LN] at g_ ⊢
          first | omega | (simp; done) | (simp; omega)) ?_
      rw [aT h2 Bh2]
      all_goals exact fz
  · simp only [step, SS]
    have gr_ := hih2
    try simp only [LN] at gr_
    have := (H1).1
    refine eM (by apply decide_eq_false; omega) ?_
    refine ⟨0, ?_⟩
    all_goals exact fz
def af:cZ 184 aN:=L3 41 (fun _=>3) dM fk live step start mix aD bC (gD Z44.af Z46.af) Tryz.func184
def Bg (a0:List Int)(a1:aq)(a2:List Int):(md a0 a1 a2).length<=a1.aI.length:=by
 have h:=sR (f:=fun (y1:Int) (s3:List bf)=>(cond (Z44.md a0 y1) (.inl (s3++[(⟨y1,(Z46.md y1 a2)⟩:bf)])) (.inl s3))) (fun y s=>by
  cases Z44.md a0 y
  ·exact ⟨s,.inl rfl,Nat.le_succ _⟩
  ·exact ⟨_,.inl rfl,by simp⟩) a1.aI []
 simpa [md] using h
end Z47
namespace Z48
def F (x0:ak)(x1:aX)(x2:aR):az:=(call (Z42.R x2) fun v1=>(call (Z43.R x2) fun v2=>(call (Z47.R (x0,x1,v2)) fun v3=>ret ((⟨v1,v3⟩:aB):aB))))
def md (a0:List Int)(a1:aq)(a2:aj):aa:=(⟨a2,(Z47.md a0 a1 (Z43.md a2))⟩:aa)
def gd (a0:List Int)(a1:aq)(a2:aj):Prop:=(cw (2^38) (fun y:Int=>True) a0)/\(aq.Sm (2^21) a1)/\(aj.Sm (2^21) a2)
def R:=qE gd md
def au {a0 a1 a2}(h:gd a0 a1 a2):R ((a0.map aQ),(aq.r a1),(aj.r a2))=some (aa.r (md a0 a1 a2)):=qB h
def aN:=CN [pL 3,.agg nR,.agg nQ] (.agg f78) RT.dec R
def bC (a0)(a1)(a2)(hg:gd a0 a1 a2):F (a0.map aQ) (aq.r a1) (aj.r a2)=ret (aa.r (md a0 a1 a2)):=by
 obtain ⟨H0,H1,H2⟩:=hg
 unfold F md
 try simp only [SS]
 refine ct (Z42.au H2) ?_
 try simp only [SS]
 refine ct (Z43.au H2) ?_
 try simp only [SS]
 refine ct (Z47.au ⟨H0,H1,⟨(have:=Z43.len a2;have:=(H2.1).1;have:=(H2.2.1).1;have:=(H2.2.2).1;om),fun _ _=>trivial⟩⟩) ?_
 try simp only [SS]
 all_goals exact fz
def af:cZ 143 aN:=W3 15 F mix aD bC (pG Z42.af Z43.af Z47.af) Tryz.func143
def sk {k:Nat}{a0:List Int}{a1:aq}{a2:aj}(h1:aq.Sm k a1)(h2:aj.Sm k a2):aa.Sm k (md a0 a1 a2):=
 ⟨h2,le_trans (Z47.Bg _ _ _) h1.1,fun _ _=>trivial⟩
end Z48
namespace Z49
def F (x0:ak)(x1 x2:Int):az:=(call (Z4.R (x0,x1,x2)) fun v1=>(call (Z3.R (x0,v1.2.1,v1.2.2.1,9)) fun v2=>(call (Z22.R (x0,v2.2.1,v2.2.2.1)) fun v3=>(call (Z3.R (x0,v3.2.1,v3.2.2.1,40)) fun v4=>(call (Z3.R (x0,v4.2.1,v4.2.2.1,60)) fun v5=>(call (Z41.R (v1.2.2.2,v2.2.2.2,v3.2.2.2,v4.2.2.2,v5.2.2.2)) fun v6=>(call (Z3.R (x0,v5.2.1,v5.2.2.1,4)) fun v7=>(cond (v7.2.2.2==0) (call (Z4.R (x0,v7.2.1,v7.2.2.1)) fun v8=>(call (Z3.R (x0,v8.2.1,v8.2.2.1,30)) fun v9=>(call (Z48.R (v1.2.2.2.aI,v1.2.2.2,(⟨v6.1.bq,v6.1.aY,v6.1.aP,v6.1.aO,v6.1.aZ,v6.1.bk,v6.1.bE,v6.1.bW,v6.1.aE,v8.2.2.2,(i64.wrap (1+v9.2.2.2)),v6.1.aK,v6.1.aH⟩:aR))) fun v10=>ret ((Hl.mk,v9.2.1,v9.2.2.1,v10):Hl×Int×Int×aB)))) (cond (v7.2.2.2==1) (call (Z4.R (x0,v7.2.1,v7.2.2.1)) fun v11=>(call (Z48.R (v1.2.2.2.aI,v1.2.2.2,(⟨v6.1.bq,v6.1.aY,v6.1.aP,v6.1.aO,v6.1.aZ,v6.1.bk,v6.1.bE,v6.1.bW,v6.1.aE,v6.1.aM,v6.1.bu,v11.2.2.2,v6.1.aH⟩:aR))) fun v12=>ret ((Hl.mk,v11.2.1,v11.2.2.1,v12):Hl×Int×Int×aB))) (call (Z48.R (v1.2.2.2.aI,v1.2.2.2,v6.1)) fun v13=>ret ((Hl.mk,v7.2.1,v7.2.2.1,v13):Hl×Int×Int×aB)))))))))))
abbrev bQ:List K:=[.sl 5,aG,aG]
def pats:List (Option eS):=[none]
def res:RP:=.agg [.rd (.int .i64),.rd (.int .i64),.rd (.int .i64),.rd (.int .i64),.rd (.int .i64),.rd (.int .i64),.rd (.int .i64),.rd (.int .i64),.fr 3,.rd (.int .i64),.fr 3,.rd (.int .i64),.rd (.int .i64),.fr 3,.rd (.int .i64),.rd (.bool),.fr 209]
abbrev E:Env:={ T:=assoc nH,G:=cQ [(179,Z41.aN),(143,Z48.aN)],nt:=48,M:=dV [],np:=(nC bQ),mt:=false,I:=fq [(177,Z4.ic (nC bQ)),(52,Z3.ic (nC bQ)),(178,Z22.ic (nC bQ))] }
def run_eq (n:Nat)(ls:List L):eg E (fun _=>[]) Tryz.f138 (.cur bQ res.parts) n (eN bQ pats ls)=F (eC ls) (bU 1 ls) (bU 2 ls):=by kernel_rfl
def gd (x0:ak)(x1 x2:Int):Prop:=CI x0 x1
def post (x0:ak)(x1 x2:Int)(y:Hl×Int×Int×aB):Prop:=CI x0 y.2.1/\∃m:aa,y.2.2.2=aa.r m/\aa.Sm 16 m
def wp (x0:ak)(x1 x2:Int)(hg:gd x0 x1 x2):Wp (F x0 x1 x2) (post x0 x1 x2):=by
 have hc:=hg
 unfold F
 refine Z4.bD hc (fun v1 ⟨c1,m1,e1,h1⟩=>?_)
 rw [e1]
 refine Z3.bD c1 (fun v2 ⟨c2,b2⟩=>?_)
 refine Z22.bD c2 (fun v3 ⟨c3,m3,e3,h3⟩=>?_)
 rw [e3]
 refine Z3.bD c3 (fun v4 ⟨c4,b4⟩=>?_)
 refine Z3.bD c4 (fun v5 ⟨c5,b5⟩=>?_)
 refine bg (Z41.au (a0:=m1) (a1:=v2.2.2.2) (a2:=m3) (a3:=v4.2.2.2) (a4:=v5.2.2.2) ⟨(aq.aV (by decide) h1),(cw.mono h3 (by decide) (fun _ h=>(ah.aV (by decide) h)))⟩) ?_
 refine Z3.bD c5 (fun v7 ⟨c7,b7⟩=>?_)
 refine wp_cond (fun q0=>?_) (fun q0=>?_)
 ·skip
  refine Z4.bD c7 (fun v8 ⟨c8,m8,e8,h8⟩=>?_)
  rw [e8]
  refine Z3.bD c8 (fun v9 ⟨c9,b9⟩=>?_)
  refine bg (Z48.au (a0:=m1.aI) (a1:=m1) (a2:=(⟨(Z41.md m1 v2.2.2.2 m3 v4.2.2.2 v5.2.2.2).1.bq,(Z41.md m1 v2.2.2.2 m3 v4.2.2.2 v5.2.2.2).1.aY,(Z41.md m1 v2.2.2.2 m3 v4.2.2.2 v5.2.2.2).1.aP,(Z41.md m1 v2.2.2.2 m3 v4.2.2.2 v5.2.2.2).1.aO,(Z41.md m1 v2.2.2.2 m3 v4.2.2.2 v5.2.2.2).1.aZ,(Z41.md m1 v2.2.2.2 m3 v4.2.2.2 v5.2.2.2).1.bk,(Z41.md m1 v2.2.2.2 m3 v4.2.2.2 v5.2.2.2).1.bE,(Z41.md m1 v2.2.2.2 m3 v4.2.2.2 v5.2.2.2).1.bW,(Z41.md m1 v2.2.2.2 m3 v4.2.2.2 v5.2.2.2).1.aE,m8,(i64.wrap (1+v9.2.2.2)),(Z41.md m1 v2.2.2.2 m3 v4.2.2.2 v5.2.2.2).1.aK,(Z41.md m1 v2.2.2.2 m3 v4.2.2.2 v5.2.2.2).1.aH⟩:aj)) ⟨(cw.mono h1 (by decide) (fun _ h=>h)),(aq.aV (by decide) h1),(aj.aV (by decide) ⟨(Z41.sk h1).1,h8,(Z41.sk h1).2.2⟩)⟩) ?_
  exact wp_ret ⟨c9,_,rfl,(aa.aV (by decide) (Z48.sk h1 ⟨(Z41.sk h1).1,h8,(Z41.sk h1).2.2⟩))⟩
 ·skip
  refine wp_cond (fun q1=>?_) (fun q1=>?_)
  ·skip
   refine Z4.bD c7 (fun v11 ⟨c11,m11,e11,h11⟩=>?_)
   rw [e11]
   refine bg (Z48.au (a0:=m1.aI) (a1:=m1) (a2:=(⟨(Z41.md m1 v2.2.2.2 m3 v4.2.2.2 v5.2.2.2).1.bq,(Z41.md m1 v2.2.2.2 m3 v4.2.2.2 v5.2.2.2).1.aY,(Z41.md m1 v2.2.2.2 m3 v4.2.2.2 v5.2.2.2).1.aP,(Z41.md m1 v2.2.2.2 m3 v4.2.2.2 v5.2.2.2).1.aO,(Z41.md m1 v2.2.2.2 m3 v4.2.2.2 v5.2.2.2).1.aZ,(Z41.md m1 v2.2.2.2 m3 v4.2.2.2 v5.2.2.2).1.bk,(Z41.md m1 v2.2.2.2 m3 v4.2.2.2 v5.2.2.2).1.bE,(Z41.md m1 v2.2.2.2 m3 v4.2.2.2 v5.2.2.2).1.bW,(Z41.md m1 v2.2.2.2 m3 v4.2.2.2 v5.2.2.2).1.aE,(Z41.md m1 v2.2.2.2 m3 v4.2.2.2 v5.2.2.2).1.aM,(Z41.md m1 v2.2.2.2 m3 v4.2.2.2 v5.2.2.2).1.bu,m11,(Z41.md m1 v2.2.2.2 m3 v4.2.2.2 v5.2.2.2).1.aH⟩:aj)) ⟨(cw.mono h1 (by decide) (fun _ h=>h)),(aq.aV (by decide) h1),(aj.aV (by decide) ⟨(Z41.sk h1).1,(Z41.sk h1).2.1,h11⟩)⟩) ?_
   exact wp_ret ⟨c11,_,rfl,(aa.aV (by decide) (Z48.sk h1 ⟨(Z41.sk h1).1,(Z41.sk h1).2.1,h11⟩))⟩
  ·skip
   refine bg (Z48.au (a0:=m1.aI) (a1:=m1) (a2:=(Z41.md m1 v2.2.2.2 m3 v4.2.2.2 v5.2.2.2).1) ⟨(cw.mono h1 (by decide) (fun _ h=>h)),(aq.aV (by decide) h1),(aj.aV (by decide) (Z41.sk h1))⟩) ?_
   exact wp_ret ⟨c7,_,rfl,(aa.aV (by decide) (Z48.sk h1 (Z41.sk h1)))⟩
def R:(ak×Int×Int)->Option (Hl×Int×Int×aB):=RQ (fun _ x=>F x.1 x.2.1 x.2.2) (fun x=>post x.1 x.2.1 x.2.2)
def iN {x0:ak}{x1 x2:Int}(hg:gd x0 x1 x2):∃y,R (x0,x1,x2)=some y/\post x0 x1 x2 y:=ow ⟨0,wp x0 x1 x2 hg⟩
def bD {x0:ak}{x1 x2:Int}{γ:Type}[RT γ]{k:(Hl×Int×Int×aB)->az}{Q:γ->Prop}(hg:gd x0 x1 x2)(hk:∀y,post x0 x1 x2 y->Wp (k y) Q):Wp (call (R (x0,x1,x2)) k) Q:=cK ⟨0,wp x0 x1 x2 hg⟩ hk
def acc (ls:List L):ak×Int×Int:=((eC ls),(bU 1 ls),(bU 2 ls))
def aN:gE:=CC bQ pats res acc R
def af:dU Tryz.prog Ev 138 aN:=VC (live:=(fun _=>[])) (mt:=false) mix aD (gD Z41.af Z48.af) .nil (.cons (Z4.aU (nC bQ)) (.cons (Z3.aU (nC bQ)) (.cons (Z22.aU (nC bQ)) .nil))) Tryz.func138 (by kernel_rfl) run_eq
def ic (_:Nat):eR:=gO Ev aN
def aU (n:Nat):cP Tryz.prog Ev n 138 (ic n):=cF af
end Z49
namespace Z50
def F (x0:aR):az:=(call (Z43.R x0) fun v1=>(dZ (gy (((1:Int)+(v1.length:Int))*8)) (call (Z25.R ([[L.int 233]]++v1)) fun v2=>ret (v2:Int))))
def md (a0:aj):Int:=((Z25.md ([233]++(Z43.md a0))):Int)
def gd (a0:aj):Prop:=(aj.Sm (2^21) a0)
def R:=RR gd md
def au {a0}(h:gd a0):R (aj.r a0)=some (md a0):=dJ h
def aN:=CN [.agg nQ] oI RT.dec R
def bC (a0)(hg:gd a0):F (aj.r a0)=ret (md a0):=by
 unfold gd at hg
 have H0:=hg
 unfold F md
 try simp only [SS]
 refine ct (Z43.au H0) ?_
 try simp only [SS]
 refine bn (have:=Z43.len a0;have:=(H0.1).1;have:=(H0.2.1).1;have:=(H0.2.2).1;lm) ?_
 refine dF (Z25.md ([233]++(Z43.md a0))) (rq (Z25.au (a0:=([233]++(Z43.md a0))) ⟨(have:=Z43.len a0;have:=(H0.1).1;have:=(H0.2.1).1;have:=(H0.2.2).1;om),fun _ _=>trivial⟩)) ?_
 all_goals exact fz
def af:cZ 173 aN:=W1 8 F mix aD bC (gD Z43.af Z25.af) Tryz.func173
end Z50
namespace Z51
def F (x0:ak)(x1 x2 x3:Int):az:=(call (Z3.R (x0,x1,x2,x3)) fun v1=>ret ((Hl.mk,v1.2.1,v1.2.2.1,(v1.2.2.2==0)):Hl×Int×Int×Bool))
abbrev bQ:List K:=[.sl 5,aG,aG]
def pats:List (Option eS):=[none,some (.rd (.int .i64))]
def res:RP:=.one (.rd (.bool))
abbrev E:Env:={ T:=assoc nH,G:=cQ [],nt:=9,M:=dV [],np:=(nC bQ),mt:=false,I:=fq [(52,Z3.ic (nC bQ))] }
def run_eq (n:Nat)(ls:List L):eg E (fun _=>[]) Tryz.f76 (.cur bQ res.parts) n (eN bQ pats ls)=F (eC ls) (bU 1 ls) (bU 2 ls) (bU 3 ls):=by kernel_rfl
def gd (x0:ak)(x1 x2 x3:Int):Prop:=CI x0 x1
def post (x0:ak)(x1 x2 x3:Int)(y:Hl×Int×Int×Bool):Prop:=CI x0 y.2.1
def wp (x0:ak)(x1 x2 x3:Int)(hg:gd x0 x1 x2 x3):Wp (F x0 x1 x2 x3) (post x0 x1 x2 x3):=by
 unfold F
 exact Z3.bD hg (fun v hv=>wp_ret hv.1)
def R:(ak×Int×Int×Int)->Option (Hl×Int×Int×Bool):=RQ (fun _ x=>F x.1 x.2.1 x.2.2.1 x.2.2.2) (fun x=>post x.1 x.2.1 x.2.2.1 x.2.2.2)
def bD {x0:ak}{x1 x2 x3:Int}{γ:Type}[RT γ]{k:(Hl×Int×Int×Bool)->az}{Q:γ->Prop}(hg:gd x0 x1 x2 x3)(hk:∀y,post x0 x1 x2 x3 y->Wp (k y) Q):Wp (call (R (x0,x1,x2,x3)) k) Q:=cK ⟨0,wp x0 x1 x2 x3 hg⟩ hk
def acc (ls:List L):ak×Int×Int×Int:=((eC ls),(bU 1 ls),(bU 2 ls),(bU 3 ls))
def aN:gE:=CC bQ pats res acc R
def af:dU Tryz.prog Ev 76 aN:=VC (live:=(fun _=>[])) (mt:=false) mix aD .nil .nil (.cons (Z3.aU (nC bQ)) .nil) Tryz.func76 (by kernel_rfl) run_eq
def ic (_:Nat):eR:=gO Ev aN
def aU (n:Nat):cP Tryz.prog Ev n 76 (ic n):=cF af
end Z51
namespace Z52
def F (x0:ak)(x1 x2:Int)(x3:aR):az:=(call (Z42.R x3) fun v1=>(call (Z50.R x3) fun v2=>(call (Z3.R (x0,x1,x2,40)) fun v3=>(call (Z3.R (x0,v3.2.1,v3.2.2.1,60)) fun v4=>(call (Z3.R (x0,v4.2.1,v4.2.2.1,6)) fun v5=>(cond (v5.2.2.2==0) (call (Z3.R (x0,v5.2.1,v5.2.2.1,3)) fun v6=>(call (Z3.R (x0,v6.2.1,v6.2.2.1,60)) fun v7=>(call (Z37.R x3.aM) fun v8=>(call (Z48.R (x3.aM.aI,x3.aM,(⟨v1.bq,(i64.wrap (x3.aY+1)),2,(i64.wrap ((i64.wrap ((i64.wrap (x3.aZ+x3.bu))+v6.2.2.2)) - 1)),(i64.wrap ((i64.wrap ((i64.wrap ((i64.wrap (x3.aZ+x3.bu))+v6.2.2.2)) - 1))+v7.2.2.2)),v1.bk,v1.bE,v2,v8,v1.aM,v1.bu,v1.aK,v1.aH⟩:aR))) fun v9=>ret ((Hl.mk,v7.2.1,v7.2.2.1,v9):Hl×Int×Int×aB))))) (cond (v5.2.2.2==1) (cond x3.aH (call (Z51.R (x0,v5.2.1,v5.2.2.1,2)) fun v10=>(cond v10.2.2.2 (call (Z4.R (x0,v10.2.1,v10.2.2.1)) fun v11=>(call (Z48.R (x3.aK.aI,x3.aK,(⟨v1.bq,(i64.wrap (x3.aY+1)),3,(i64.wrap (x3.aO+v3.2.2.2)),(i64.wrap ((i64.wrap (x3.aO+v3.2.2.2))+v4.2.2.2)),v1.bk,v1.bE,v2,v11.2.2.2,v1.aM,v1.bu,v1.aK,(!x3.aH)⟩:aR))) fun v12=>ret ((Hl.mk,v11.2.1,v11.2.2.1,v12):Hl×Int×Int×aB))) (call (Z48.R (x3.aK.aI,x3.aK,(⟨v1.bq,(i64.wrap (x3.aY+1)),3,(i64.wrap (x3.aO+v3.2.2.2)),(i64.wrap ((i64.wrap (x3.aO+v3.2.2.2))+v4.2.2.2)),v1.bk,v1.bE,v2,v1.aE,v1.aM,v1.bu,v1.aK,(!x3.aH)⟩:aR))) fun v13=>ret ((Hl.mk,v10.2.1,v10.2.2.1,v13):Hl×Int×Int×aB)))) (call (Z48.R (x3.aK.aI,x3.aK,(⟨v1.bq,(i64.wrap (x3.aY+1)),3,(i64.wrap (x3.aO+v3.2.2.2)),(i64.wrap ((i64.wrap (x3.aO+v3.2.2.2))+v4.2.2.2)),v1.bk,v1.bE,v2,v1.aE,v1.aM,v1.bu,v1.aK,(!x3.aH)⟩:aR))) fun v14=>ret ((Hl.mk,v5.2.1,v5.2.2.1,v14):Hl×Int×Int×aB))) (cond (v5.2.2.2==2) (call (Z4.R (x0,v5.2.1,v5.2.2.1)) fun v15=>(call (Z48.R (x3.aE.aI,x3.aE,(⟨v1.bq,(i64.wrap (x3.aY+1)),1,(i64.wrap (x3.aO+v3.2.2.2)),(i64.wrap ((i64.wrap (x3.aO+v3.2.2.2))+v4.2.2.2)),v1.bk,v1.bE,v2,v15.2.2.2,v1.aM,v1.bu,v1.aK,v1.aH⟩:aR))) fun v16=>ret ((Hl.mk,v15.2.1,v15.2.2.1,v16):Hl×Int×Int×aB))) (cond (v5.2.2.2==3) (call (Z22.R (x0,v5.2.1,v5.2.2.1)) fun v17=>(call (Z36.R v17.2.2.2) fun v18=>(call (Z48.R (x3.aE.aI,x3.aE,(⟨v1.bq,(i64.wrap (x3.aY+1)),1,(i64.wrap (x3.aO+v3.2.2.2)),(i64.wrap ((i64.wrap (x3.aO+v3.2.2.2))+v4.2.2.2)),(v17.2.2.2.length:Int),v18,v2,v1.aE,v1.aM,v1.bu,v1.aK,v1.aH⟩:aR))) fun v19=>ret ((Hl.mk,v17.2.1,v17.2.2.1,v19):Hl×Int×Int×aB)))) (cond (v5.2.2.2==4) (call (Z4.R (x0,v5.2.1,v5.2.2.1)) fun v20=>(call (Z3.R (x0,v20.2.1,v20.2.2.1,20)) fun v21=>(call (Z4.R (x0,v21.2.1,v21.2.2.1)) fun v22=>(call (Z48.R (x3.aE.aI,x3.aE,(⟨v1.bq,(i64.wrap (x3.aY+1)),1,(i64.wrap (x3.aO+v3.2.2.2)),(i64.wrap ((i64.wrap (x3.aO+v3.2.2.2))+v4.2.2.2)),v1.bk,v1.bE,v2,v1.aE,v20.2.2.2,(i64.wrap (1+v21.2.2.2)),v22.2.2.2,v1.aH⟩:aR))) fun v23=>ret ((Hl.mk,v22.2.1,v22.2.2.1,v23):Hl×Int×Int×aB))))) (call (Z48.R (x3.aE.aI,x3.aE,(⟨v1.bq,(i64.wrap (x3.aY+1)),1,(i64.wrap (x3.aO+v3.2.2.2)),(i64.wrap ((i64.wrap (x3.aO+v3.2.2.2))+v4.2.2.2)),v1.bk,v1.bE,v2,v1.aE,v1.aM,v1.bu,v1.aK,v1.aH⟩:aR))) fun v24=>ret ((Hl.mk,v5.2.1,v5.2.2.1,v24):Hl×Int×Int×aB))))))))))))
abbrev bQ:List K:=[.sl 5,aG,aG]
def pats:List (Option eS):=[none,some (.agg [aG,aG,aG,aG,aG,aG,aG,aG,.sl 3,aG,.sl 3,aG,aG,.sl 3,aG,.bool])]
def res:RP:=.agg [.rd (.int .i64),.rd (.int .i64),.rd (.int .i64),.rd (.int .i64),.rd (.int .i64),.rd (.int .i64),.rd (.int .i64),.rd (.int .i64),.fr 3,.rd (.int .i64),.fr 3,.rd (.int .i64),.rd (.int .i64),.fr 3,.rd (.int .i64),.rd (.bool),.fr 209]
abbrev E:Env:={ T:=assoc nH,G:=cQ [(39,Z42.aN),(173,Z50.aN),(90,Z37.aN),(143,Z48.aN),(181,Z36.aN)],nt:=109,M:=dV [],np:=(nC bQ),mt:=false,I:=fq [(52,Z3.ic (nC bQ)),(76,Z51.ic (nC bQ)),(177,Z4.ic (nC bQ)),(178,Z22.ic (nC bQ))] }
def run_eq (n:Nat)(ls:List L):eg E (fun _=>[]) Tryz.f140 (.cur bQ res.parts) n (eN bQ pats ls)=F (eC ls) (bU 1 ls) (bU 2 ls) (aR.dec (bt 3 ls)):=by kernel_rfl
def gd (x0:ak)(x1 x2:Int)(x3:aR):Prop:=CI x0 x1/\∃m:aj,x3=aj.r m/\aj.Sm 64 m
def post (x0:ak)(x1 x2:Int)(x3:aR)(y:Hl×Int×Int×aB):Prop:=CI x0 y.2.1/\∃m:aa,y.2.2.2=aa.r m/\aa.Sm 64 m
def wp (x0:ak)(x1 x2:Int)(x3:aR)(hg:gd x0 x1 x2 x3):Wp (F x0 x1 x2 x3) (post x0 x1 x2 x3):=by
 obtain ⟨hc,n3,rfl,g3⟩:=hg
 unfold F
 refine bg (Z42.au (a0:=n3) (aj.aV (by decide) g3)) ?_
 refine bg (Z50.au (a0:=n3) (aj.aV (by decide) g3)) ?_
 refine Z3.bD hc (fun v3 ⟨c3,b3⟩=>?_)
 refine Z3.bD c3 (fun v4 ⟨c4,b4⟩=>?_)
 refine Z3.bD c4 (fun v5 ⟨c5,b5⟩=>?_)
 refine wp_cond (fun q0=>?_) (fun q0=>?_)
 ·skip
  refine Z3.bD c5 (fun v6 ⟨c6,b6⟩=>?_)
  refine Z3.bD c6 (fun v7 ⟨c7,b7⟩=>?_)
  refine bg (Z37.au (a0:=n3.aM) (aq.aV (by decide) g3.2.1)) ?_
  refine bg (Z48.au (a0:=n3.aM.aI) (a1:=n3.aM) (a2:=(⟨(Z42.md n3).bq,(i64.wrap (n3.aY+1)),2,(i64.wrap ((i64.wrap ((i64.wrap (n3.aZ+n3.bu))+v6.2.2.2)) - 1)),(i64.wrap ((i64.wrap ((i64.wrap ((i64.wrap (n3.aZ+n3.bu))+v6.2.2.2)) - 1))+v7.2.2.2)),(Z42.md n3).bk,(Z42.md n3).bE,(Z50.md n3),(Z37.md n3.aM),(Z42.md n3).aM,(Z42.md n3).bu,(Z42.md n3).aK,(Z42.md n3).aH⟩:aj)) ⟨(cw.mono g3.2.1 (by decide) (fun _ h=>h)),(aq.aV (by decide) g3.2.1),(aj.aV (by decide) ⟨g3.2.1,g3.2.1,g3.2.2⟩)⟩) ?_
  exact wp_ret ⟨c7,_,rfl,(Z48.sk g3.2.1 ⟨g3.2.1,g3.2.1,g3.2.2⟩)⟩
 ·skip
  refine wp_cond (fun q1=>?_) (fun q1=>?_)
  ·skip
   refine wp_cond (fun q2=>?_) (fun q2=>?_)
   ·skip
    refine Z51.bD c5 (fun v10 c10=>?_)
    refine wp_cond (fun q3=>?_) (fun q3=>?_)
    ·skip
     refine Z4.bD c10 (fun v11 ⟨c11,m11,e11,h11⟩=>?_)
     rw [e11]
     refine bg (Z48.au (a0:=n3.aK.aI) (a1:=n3.aK) (a2:=(⟨(Z42.md n3).bq,(i64.wrap (n3.aY+1)),3,(i64.wrap (n3.aO+v3.2.2.2)),(i64.wrap ((i64.wrap (n3.aO+v3.2.2.2))+v4.2.2.2)),(Z42.md n3).bk,(Z42.md n3).bE,(Z50.md n3),m11,(Z42.md n3).aM,(Z42.md n3).bu,(Z42.md n3).aK,!n3.aH⟩:aj)) ⟨(cw.mono g3.2.2 (by decide) (fun _ h=>h)),(aq.aV (by decide) g3.2.2),(aj.aV (by decide) ⟨(aq.aV (by decide) h11),g3.2.1,g3.2.2⟩)⟩) ?_
     exact wp_ret ⟨c11,_,rfl,(Z48.sk g3.2.2 ⟨(aq.aV (by decide) h11),g3.2.1,g3.2.2⟩)⟩
    ·skip
     refine bg (Z48.au (a0:=n3.aK.aI) (a1:=n3.aK) (a2:=(⟨(Z42.md n3).bq,(i64.wrap (n3.aY+1)),3,(i64.wrap (n3.aO+v3.2.2.2)),(i64.wrap ((i64.wrap (n3.aO+v3.2.2.2))+v4.2.2.2)),(Z42.md n3).bk,(Z42.md n3).bE,(Z50.md n3),(Z42.md n3).aE,(Z42.md n3).aM,(Z42.md n3).bu,(Z42.md n3).aK,!n3.aH⟩:aj)) ⟨(cw.mono g3.2.2 (by decide) (fun _ h=>h)),(aq.aV (by decide) g3.2.2),(aj.aV (by decide) ⟨g3.1,g3.2.1,g3.2.2⟩)⟩) ?_
     exact wp_ret ⟨c10,_,rfl,(Z48.sk g3.2.2 ⟨g3.1,g3.2.1,g3.2.2⟩)⟩
   ·skip
    refine bg (Z48.au (a0:=n3.aK.aI) (a1:=n3.aK) (a2:=(⟨(Z42.md n3).bq,(i64.wrap (n3.aY+1)),3,(i64.wrap (n3.aO+v3.2.2.2)),(i64.wrap ((i64.wrap (n3.aO+v3.2.2.2))+v4.2.2.2)),(Z42.md n3).bk,(Z42.md n3).bE,(Z50.md n3),(Z42.md n3).aE,(Z42.md n3).aM,(Z42.md n3).bu,(Z42.md n3).aK,!n3.aH⟩:aj)) ⟨(cw.mono g3.2.2 (by decide) (fun _ h=>h)),(aq.aV (by decide) g3.2.2),(aj.aV (by decide) ⟨g3.1,g3.2.1,g3.2.2⟩)⟩) ?_
    exact wp_ret ⟨c5,_,rfl,(Z48.sk g3.2.2 ⟨g3.1,g3.2.1,g3.2.2⟩)⟩
  ·skip
   refine wp_cond (fun q2=>?_) (fun q2=>?_)
   ·skip
    refine Z4.bD c5 (fun v15 ⟨c15,m15,e15,h15⟩=>?_)
    rw [e15]
    refine bg (Z48.au (a0:=n3.aE.aI) (a1:=n3.aE) (a2:=(⟨(Z42.md n3).bq,(i64.wrap (n3.aY+1)),1,(i64.wrap (n3.aO+v3.2.2.2)),(i64.wrap ((i64.wrap (n3.aO+v3.2.2.2))+v4.2.2.2)),(Z42.md n3).bk,(Z42.md n3).bE,(Z50.md n3),m15,(Z42.md n3).aM,(Z42.md n3).bu,(Z42.md n3).aK,(Z42.md n3).aH⟩:aj)) ⟨(cw.mono g3.1 (by decide) (fun _ h=>h)),(aq.aV (by decide) g3.1),(aj.aV (by decide) ⟨(aq.aV (by decide) h15),g3.2.1,g3.2.2⟩)⟩) ?_
    exact wp_ret ⟨c15,_,rfl,(Z48.sk g3.1 ⟨(aq.aV (by decide) h15),g3.2.1,g3.2.2⟩)⟩
   ·skip
    refine wp_cond (fun q3=>?_) (fun q3=>?_)
    ·skip
     refine Z22.bD c5 (fun v17 ⟨c17,m17,e17,h17⟩=>?_)
     rw [e17]
     try simp only [List.length_map]
     refine bg (Z36.au (a0:=m17) (cw.mono h17 (by decide) (fun _ h=>(ah.aV (by decide) h)))) ?_
     have h0:=Z48.au (a0:=n3.aE.aI) (a1:=n3.aE) (a2:=(⟨(Z42.md n3).bq,(i64.wrap (n3.aY+1)),1,(i64.wrap (n3.aO+v3.2.2.2)),(i64.wrap ((i64.wrap (n3.aO+v3.2.2.2))+v4.2.2.2)),((m17).length:Int),(Z36.md m17),(Z50.md n3),(Z42.md n3).aE,(Z42.md n3).aM,(Z42.md n3).bu,(Z42.md n3).aK,(Z42.md n3).aH⟩:aj)) ⟨(cw.mono g3.1 (by decide) (fun _ h=>h)),(aq.aV (by decide) g3.1),(aj.aV (by decide) ⟨g3.1,g3.2.1,g3.2.2⟩)⟩
     simp only [aj.r,aq.r] at h0 ⊢
     refine bg h0 ?_
     exact wp_ret ⟨c17,_,rfl,(Z48.sk g3.1 ⟨g3.1,g3.2.1,g3.2.2⟩)⟩
    ·skip
     refine wp_cond (fun q4=>?_) (fun q4=>?_)
     ·skip
      refine Z4.bD c5 (fun v20 ⟨c20,m20,e20,h20⟩=>?_)
      rw [e20]
      refine Z3.bD c20 (fun v21 ⟨c21,b21⟩=>?_)
      refine Z4.bD c21 (fun v22 ⟨c22,m22,e22,h22⟩=>?_)
      rw [e22]
      refine bg (Z48.au (a0:=n3.aE.aI) (a1:=n3.aE) (a2:=(⟨(Z42.md n3).bq,(i64.wrap (n3.aY+1)),1,(i64.wrap (n3.aO+v3.2.2.2)),(i64.wrap ((i64.wrap (n3.aO+v3.2.2.2))+v4.2.2.2)),(Z42.md n3).bk,(Z42.md n3).bE,(Z50.md n3),(Z42.md n3).aE,m20,(i64.wrap (1+v21.2.2.2)),m22,(Z42.md n3).aH⟩:aj)) ⟨(cw.mono g3.1 (by decide) (fun _ h=>h)),(aq.aV (by decide) g3.1),(aj.aV (by decide) ⟨g3.1,(aq.aV (by decide) h20),(aq.aV (by decide) h22)⟩)⟩) ?_
      exact wp_ret ⟨c22,_,rfl,(Z48.sk g3.1 ⟨g3.1,(aq.aV (by decide) h20),(aq.aV (by decide) h22)⟩)⟩
     ·skip
      refine bg (Z48.au (a0:=n3.aE.aI) (a1:=n3.aE) (a2:=(⟨(Z42.md n3).bq,(i64.wrap (n3.aY+1)),1,(i64.wrap (n3.aO+v3.2.2.2)),(i64.wrap ((i64.wrap (n3.aO+v3.2.2.2))+v4.2.2.2)),(Z42.md n3).bk,(Z42.md n3).bE,(Z50.md n3),(Z42.md n3).aE,(Z42.md n3).aM,(Z42.md n3).bu,(Z42.md n3).aK,(Z42.md n3).aH⟩:aj)) ⟨(cw.mono g3.1 (by decide) (fun _ h=>h)),(aq.aV (by decide) g3.1),(aj.aV (by decide) ⟨g3.1,g3.2.1,g3.2.2⟩)⟩) ?_
      exact wp_ret ⟨c5,_,rfl,(Z48.sk g3.1 ⟨g3.1,g3.2.1,g3.2.2⟩)⟩
def R:(ak×Int×Int×aR)->Option (Hl×Int×Int×aB):=RQ (fun _ x=>F x.1 x.2.1 x.2.2.1 x.2.2.2) (fun x=>post x.1 x.2.1 x.2.2.1 x.2.2.2)
def bD {x0:ak}{x1 x2:Int}{x3:aR}{γ:Type}[RT γ]{k:(Hl×Int×Int×aB)->az}{Q:γ->Prop}(hg:gd x0 x1 x2 x3)(hk:∀y,post x0 x1 x2 x3 y->Wp (k y) Q):Wp (call (R (x0,x1,x2,x3)) k) Q:=cK ⟨0,wp x0 x1 x2 x3 hg⟩ hk
def acc (ls:List L):ak×Int×Int×aR:=((eC ls),(bU 1 ls),(bU 2 ls),(aR.dec (bt 3 ls)))
def aN:gE:=CC bQ pats res acc R
def af:dU Tryz.prog Ev 140 aN:=VC (live:=(fun _=>[])) (mt:=false) mix aD (Cm Z42.af Z50.af Z37.af Z48.af Z36.af) .nil (.cons (Z3.aU (nC bQ)) (.cons (Z51.aU (nC bQ)) (.cons (Z4.aU (nC bQ)) (.cons (Z22.aU (nC bQ)) .nil)))) Tryz.func140 (by kernel_rfl) run_eq
def ic (_:Nat):eR:=gO Ev aN
def aU (n:Nat):cP Tryz.prog Ev n 140 (ic n):=cF af
end Z52
namespace Z53
def F (x0:bf)(x1:ak):az:=(call (Z15.R (x0.mI,1,99)) fun v1=>(cond v1 (call (Z46.R (x0.mI,x1)) fun v2=>ret ((x0.wW==v2):Bool)) bL))
def md (a0:bf)(a1:List Int):Bool:=(cond (Z15.md a0.mI 1 99) ((a0.wW==(Z46.md a0.mI a1)):Bool) (false:Bool))
def gd (a0:bf)(a1:List Int):Prop:=(cw (2^38) (fun y:Int=>True) a1)
def R:=dO gd md
def au {a0 a1}(h:gd a0 a1):R (a0,(a1.map aQ))=some (md a0 a1):=dN h
def aN:=CN [.agg B3,pL 3] oB RT.dec R
def bC (a0)(a1)(hg:gd a0 a1):F a0 (a1.map aQ)=ret (md a0 a1):=by
 unfold gd at hg
 have H1:=hg
 unfold F md
 try simp only [SS]
 refine ct (Z15.au trivial) ?_
 refine av ret (fun c1=>?_) (fun _=>rfl)
 refine ct (Z46.au (H1.mono (by decide) (fun x hx=>trivial))) ?_
 all_goals exact fz
def af:cZ 215 aN:=W2 17 F mix aD bC (gD Z15.af Z46.af) Tryz.func215
end Z53
namespace Z54
inductive Pt where
 | p0 (a b:ak) (c d:Int) (e:aX)
 | p1 (a b:ak) (c d e:Int) (f:aX)
def pid:Pt->Nat
 | .p0 ..=>3
 | .p1 ..=>6
def dM:Pt->List V
 | .p0 a b c d e=>[.sl none 3 a,.sl none 209 b,.bB 0 0,.int .i64 c,.int .i64 d]
 | .p1 a b c d e f=>[.sl none 3 a,.sl none 209 b,.bB 0 0,.int .i64 c,.int .i64 d,.int .i64 e]
def fk:Pt->List aA
 | .p0 a b c d e=>[.box [.sl none 3 e.aI,.int .i64 e.bS]]
 | .p1 a b c d e f=>[.box [.sl none 3 f.aI,.int .i64 f.bS]]
def step (J:Pt->az):Pt->az
 | .p0 a b c d e=>(cond (d<(e.aI.length:Int)) (J (.p1 a b c d 0 e)) (ret (c:Int)))
 | .p1 a b c d e f=>(cond (e<(b.length:Int)) (m2 e (b.length:Int) (m2 d (f.aI.length:Int) (cond ((bf.at b (toNat e)).mI==(ld f.aI (toNat d))) (m2 e (b.length:Int) (call (Z53.R ((bf.at b (toNat e)),a)) fun v1=>(cond v1 (J (.p0 a b (i64.wrap (c+1)) (i64.wrap (d+1)) f)) (J (.p1 a b c d (i64.wrap (e+1)) f))))) (J (.p1 a b c d (i64.wrap (e+1)) f))))) (J (.p0 a b c (i64.wrap (d+1)) f)))
def start (J:Pt->az)(x0:aX)(x1 x2:ak):az:=J (.p0 x1 x2 0 0 x0)
def live:Nat->Live:=kA [(3,nP [1,2,3,7,8]),(6,nP [1,2,3,7,8,9])]
def md (a0:aq)(a1:List Int)(a2:List bf):Int:=(dP (S:=Int) (β:=Int) (fun (y1:Int) (s3:Int)=>(dP (S:=Unit) (β:=(Int⊕Int)) (fun (y5:bf) (s7:Unit)=>(cond (y5.mI==y1) (cond (Z53.md y5 a1) (.inr (.inl (i64.wrap (s3+1)))) (.inl ())) (.inl ()))) (fun (s7:Unit)=>(.inl s3)) a2 ())) (fun (s3:Int)=>(s3:Int)) a0.aI 0)
def gd (a0:aq)(a1:List Int)(a2:List bf):Prop:=(aq.Sm (2^21) a0)/\(cw (2^38) (fun y:Int=>True) a1)/\(cw (2^21) (fun y:bf=>bf.Sm (2^21) y) a2)
def R:=qE gd md
def au {a0 a1 a2}(h:gd a0 a1 a2):R ((aq.r a0),(a1.map aQ),(a2.map bf.row))=some (md a0 a1 a2):=qB h
def aN:=CN [.agg nR,pL 3,pL 209] oI RT.dec R
def bC (a0)(a1)(a2)(hg:gd a0 a1 a2):∃n,start (iter step n) (aq.r a0) (a1.map aQ) (a2.map bf.row)=ret (md a0 a1 a2):=by
 obtain ⟨H0,H1,H2⟩:=hg
 unfold start md
 try simp only [SS]
 have Bh2:a0.aI.length<=maxLen:=(by
   have:=(H0).1
   try simp only [maxLen] at *
   omega)
 refine ex_eq (out:=ret) (dx (z:=0)) ?_
 refine eO (p:=Pt.p0 (a1.map aQ) (a2.map bf.row) 0 0 (aq.r a0)) fz ?_
 refine vh (pt:=fun (i1:Nat) (s3:Int)=>Pt.p0 (a1.map aQ) (a2.map bf.row) s3 (i1:Int) (aq.r a0)) (s:=(0:Int)) (out:=ret) (fun _ _=>True) (fun i1 s3 h2 hih2 K4 hK4 rK4=>?_) (fun s3 hih2=>?_) trivial
 ·simp only [step,SS]
  have bb_:=Bh2
  simp only [maxLen] at bb_
  have:=(H0).1
  refine iL (by apply decide_eq_true;omega) ?_
  have Bh6:a2.length<=maxLen:=(by
    have:=(H2).1
    try simp only [maxLen] at *
    omega)
  refine ex_eq (out:=K4) (dx (z:=bf.zero)) ?_
  refine eO (p:=Pt.p1 (a1.map aQ) (a2.map bf.row) s3 (i1:Int) 0 (aq.r a0)) fz ?_
  refine vh (pt:=fun (i5:Nat) (s7:Unit)=>Pt.p1 (a1.map aQ) (a2.map bf.row) s3 (i1:Int) (i5:Int) (aq.r a0)) (s:=(():Unit)) (out:=K4) (fun _ _=>True) (fun i5 s7 h6 hih6 K8 hK8 rK8=>?_) (fun s7 hih6=>?_) trivial
  ·simp only [step,SS]
   have bb_:=Bh6
   simp only [maxLen] at bb_
   have:=(H2).1
   refine iL (by apply decide_eq_true;omega) ?_
   refine iL bJ ?_
   refine iL (cA h6) ?_
   refine iL dt ?_
   refine iL (have:=(H0).1;dt) ?_
   refine iJ K8 (fun c9=>?_) (fun c9=>?_)
   ·refine iL bJ ?_
    refine iL (cA h6) ?_
    refine cx (Z53.au H1) ?_
    refine iJ K8 (fun c10=>?_) (fun c10=>?_)
    ·rw [rK8]
     rw [aT h2 Bh2]
     first | exact hK4 _ trivial | (simp only [SS];exact hK4 _ trivial) | (simp only [MP];exact hK4 _ trivial)
    ·rw [aT h6 Bh6]
     first | exact hK8 _ trivial | (simp only [SS];exact hK8 _ trivial) | (simp only [MP];exact hK8 _ trivial)
   ·rw [aT h6 Bh6]
    first | exact hK8 _ trivial | (simp only [SS];exact hK8 _ trivial) | (simp only [MP];exact hK8 _ trivial)
  ·simp only [step,SS]
   have:=(H2).1
   refine eM (by apply decide_eq_false;omega) ?_
   rw [aT h2 Bh2]
   first | exact hK4 _ trivial | (simp only [SS];exact hK4 _ trivial) | (simp only [MP];exact hK4 _ trivial)
 ·simp only [step,SS]
  have:=(H0).1
  refine eM (by apply decide_eq_false;omega) ?_
  refine ⟨0,?_⟩
  all_goals exact fz
def af:cZ 172 aN:=L3 45 pid dM fk live step start mix aD bC (dR Z53.af) Tryz.func172
end Z54
namespace Z55
def F (x0:aX)(x1 x2:ak):az:=(call (Z38.R x0) fun v1=>(cond v1 (call (Z54.R (x0,x1,x2)) fun v2=>ret ((decide (v2>=x0.bS)):Bool)) bL))
def md (a0:aq)(a1:List Int)(a2:List bf):Bool:=(cond (Z38.md a0) ((decide ((Z54.md a0 a1 a2)>=a0.bS)):Bool) (false:Bool))
def gd (a0:aq)(a1:List Int)(a2:List bf):Prop:=(aq.Sm (2^21) a0)/\(cw (2^38) (fun y:Int=>True) a1)/\(cw (2^21) (fun y:bf=>bf.Sm (2^21) y) a2)
def R:=qE gd md
def au {a0 a1 a2}(h:gd a0 a1 a2):R ((aq.r a0),(a1.map aQ),(a2.map bf.row))=some (md a0 a1 a2):=qB h
def aN:=CN [.agg nR,pL 3,pL 209] oB RT.dec R
def bC (a0)(a1)(a2)(hg:gd a0 a1 a2):F (aq.r a0) (a1.map aQ) (a2.map bf.row)=ret (md a0 a1 a2):=by
 obtain ⟨H0,H1,H2⟩:=hg
 unfold F md
 try simp only [SS]
 refine ct (Z38.au H0) ?_
 refine av ret (fun c1=>?_) (fun _=>rfl)
 refine ct (Z54.au ⟨H0,H1,H2⟩) ?_
 all_goals exact fz
def af:cZ 135 aN:=W3 18 F mix aD bC (gD Z38.af Z54.af) Tryz.func135
end Z55
namespace Z56
def F (x0:aB):az:=(call (Z40.R x0.an) fun v1=>(cond v1 (cond (x0.an.aY==0) (cond (x0.an.aP==1) (cond (!x0.an.aH) (call (Z26.R (x0.an.aE,x0.an.bW)) fun v2=>(cond (x0.an.bq==v2) (call (Z43.R x0.an) fun v3=>(call (Z55.R (x0.an.aE,v3,x0.eB)) fun v4=>ret (v4:Bool))) bL)) bL) bL) bL) bL))
def md (a0:aa):Bool:=(cond (Z40.md a0.an) (cond (a0.an.aY==0) (cond (a0.an.aP==1) (cond (!a0.an.aH) (cond (a0.an.bq==(Z26.md a0.an.aE a0.an.bW)) ((Z55.md a0.an.aE (Z43.md a0.an) a0.eB):Bool) (false:Bool)) (false:Bool)) (false:Bool)) (false:Bool)) (false:Bool))
def gd (a0:aa):Prop:=(aa.Sm (2^21) a0)
def R:=RR gd md
def au {a0}(h:gd a0):R (aa.r a0)=some (md a0):=dJ h
def aN:=CN [.agg zp] oB RT.dec R
def bC (a0)(hg:gd a0):F (aa.r a0)=ret (md a0):=by
 unfold gd at hg
 have H0:=hg
 unfold F md
 try simp only [SS]
 refine ct (Z40.au H0.1) ?_
 refine av ret (fun c1=>?_) (fun _=>rfl)
 try have tc1:=Z40.tr (by simpa using c1)
 refine av ret (fun c2=>?_) (fun _=>rfl)
 have dc2:=c2
 try simp only [DC] at dc2
 refine av ret (fun c3=>?_) (fun _=>rfl)
 have dc3:=c3
 try simp only [DC] at dc3
 refine av ret (fun c4=>?_) (fun _=>rfl)
 have dc4:=c4
 try simp only [DC] at dc4
 refine ct (Z26.au H0.1.1) ?_
 refine av ret (fun c5=>?_) (fun _=>rfl)
 have dc5:=c5
 try simp only [DC] at dc5
 refine ct (Z43.au H0.1) ?_
 try simp only [SS]
 refine ct (Z55.au ⟨H0.1.1,⟨(have:=Z43.len a0.an;have:=(H0.1.1).1;have:=(H0.1.2.1).1;have:=(H0.1.2.2).1;om),fun _ _=>trivial⟩,H0.2⟩) ?_
 all_goals exact fz
def af:cZ 91 aN:=W1 42 F mix aD bC (wL Z40.af Z26.af Z43.af Z55.af) Tryz.func91
end Z56
namespace Z57
def F (x0 x1:aR):az:=(cond x0.aH (ret (4:Int)) (cond x1.aH (ret (6:Int)) (ret (1:Int))))
def md (a0 a1:aj):Int:=(cond a0.aH (4:Int) (cond a1.aH (6:Int) (1:Int)))
def gd (a0 a1:aj):Prop:=True
def R:=dO gd md
def au {a0 a1}(h:gd a0 a1):R ((aj.r a0),(aj.r a1))=some (md a0 a1):=dN h
def aN:=CN [.agg nQ,.agg nQ] oI RT.dec R
def bC (a0)(a1)(hg:gd a0 a1):F (aj.r a0) (aj.r a1)=ret (md a0 a1):=by
 unfold F md
 try simp only [SS]
 refine av ret (fun _=>rfl) (fun c1=>?_)
 refine av ret (fun _=>rfl) (fun _=>rfl)
def af:cZ 174 aN:=W2 11 F mix aD bC .nil Tryz.func174
end Z57
namespace Z58
inductive Pt where
 | p0 (a b:ak) (c:Int)
def dM:Pt->List V
 | .p0 a b c=>[.sl none 3 a,.sl none 3 b,.int .i64 c]
def step (J:Pt->az):Pt->az
 | .p0 a b c=>(cond (c<(a.length:Int)) (m2 c (a.length:Int) (m2 c (b.length:Int) (cond ((ld a (toNat c)) != (ld b (toNat c))) bL (J (.p0 a b (i64.wrap (c+1))))))) oz)
def start (J:Pt->az)(x0 x1:ak):az:=(cond ((x0.length:Int) != (x1.length:Int)) bL (J (.p0 x0 x1 0)))
def live:Nat->Live:=kA [(4,nP [0,1,5])]
def md (a0 a1:List Int):Bool:=(bif ((a0.length:Int) != (a1.length:Int)) then (false:Bool) else (dS (S:=Unit) (β:=Bool) (fun (i2:Nat) (s4:Unit)=>(cond ((a0.getD i2 0) != (a1.getD i2 0)) (.inr (false:Bool)) (.inl ()))) (fun (s4:Unit)=>(true:Bool)) a0.length 0 ()))
def gd (a0 a1:List Int):Prop:=(cw (2^38) (fun y:Int=>True) a0)/\(cw (2^38) (fun y:Int=>True) a1)
def R:=dO gd md
def au {a0 a1}(h:gd a0 a1):R ((a0.map aQ),(a1.map aQ))=some (md a0 a1):=dN h
def aN:=CN [pL 3,pL 3] oB RT.dec R
def bC (a0)(a1)(hg:gd a0 a1):∃n,start (iter step n) (a0.map aQ) (a1.map aQ)=ret (md a0 a1):=by
 obtain ⟨H0,H1⟩:=hg
 unfold start md
 try simp only [SS]
 refine iJ ret (fun _=>⟨0,rfl⟩) (fun c1=>?_)
 have dc1:=c1
 try simp only [DC] at dc1
 have Bh3:a0.length<=maxLen:=(by
   have:=(H0).1
   try simp only [maxLen] at *
   omega)
 refine eO (p:=Pt.p0 (a0.map aQ) (a1.map aQ) 0) fz ?_
 refine cH (pt:=fun (i2:Nat) (s4:Unit)=>Pt.p0 (a0.map aQ) (a1.map aQ) (i2:Int)) (s:=(():Unit)) (out:=ret) (fun _ _=>True) (fun J i2 s4 h3 hih3=>?_) (fun s4 hih3=>?_) trivial
 ·simp only [step,SS]
  have bb_:=Bh3
  simp only [maxLen] at bb_
  have:=(H0).1
  refine bp.yes (by apply decide_eq_true;omega) ?_
  refine bp.yes bJ ?_
  refine bp.yes (cA h3) ?_
  refine bp.yes bJ ?_
  refine bp.yes (have:=(H1).1;dt) ?_
  refine bp.bif (fun _=>bp.inr rfl) (fun c5=>?_)
  refine bp.inl trivial ?_
  rw [aT h3 Bh3]
  all_goals exact fz
 ·simp only [step,SS]
  have:=(H0).1
  refine eM (by apply decide_eq_false;omega) ?_
  refine ⟨0,?_⟩
  all_goals exact fz
def af:cZ 225 aN:=L2 26 (fun _=>4) dM (fun _=>[]) live step start mix aD bC .nil Tryz.func225
def md_eq (a0 a1:List Int):md a0 a1=qi a0 a1:=by
 unfold md
 refine wE (0) (fun i s h h2=>?_) (fun s=>rfl)
 simp only [bne,yj,bool_beq,uK]
 cases qi _ _<;>rfl
end Z58
namespace Z59
def F (x0 x1:aX):az:=(cond (x0.bS==x1.bS) (call (Z58.R (x0.aI,x1.aI)) fun v1=>ret (v1:Bool)) bL)
def md (a0 a1:aq):Bool:=(cond (a0.bS==a1.bS) ((Z58.md a0.aI a1.aI):Bool) (false:Bool))
def gd (a0 a1:aq):Prop:=(aq.Sm (2^21) a0)/\(aq.Sm (2^21) a1)
def R:=dO gd md
def au {a0 a1}(h:gd a0 a1):R ((aq.r a0),(aq.r a1))=some (md a0 a1):=dN h
def aN:=CN [.agg nR,.agg nR] oB RT.dec R
def bC (a0)(a1)(hg:gd a0 a1):F (aq.r a0) (aq.r a1)=ret (md a0 a1):=by
 obtain ⟨H0,H1⟩:=hg
 unfold F md
 try simp only [SS]
 refine av ret (fun c1=>?_) (fun _=>rfl)
 refine ct (Z58.au ⟨(H0.mono (by decide) (fun x hx=>trivial)),(H1.mono (by decide) (fun x hx=>trivial))⟩) ?_
 all_goals exact fz
def af:cZ 216 aN:=W2 17 F mix aD bC (dR Z58.af) Tryz.func216
def md_eq (a0 a1:aq):md a0 a1=qi a0 a1:=by
 unfold md
 cases a0;cases a1
 rw [Bool.eq_iff_iff]
 simp [fN,uK,aq.mk.injEq,Z58.md_eq]
 try (constructor<;>(intro h;simp_all))
end Z59
namespace Z60
def F (x0 x1:aR):az:=(cond (x0.bk==x1.bk) (ret ((x0.bE==x1.bE):Bool)) bL)
def md (a0 a1:aj):Bool:=(cond (a0.bk==a1.bk) ((a0.bE==a1.bE):Bool) (false:Bool))
def gd (a0 a1:aj):Prop:=True
def R:=dO gd md
def au {a0 a1}(h:gd a0 a1):R ((aj.r a0),(aj.r a1))=some (md a0 a1):=dN h
def aN:=CN [.agg nQ,.agg nQ] oB RT.dec R
def bC (a0)(a1)(hg:gd a0 a1):F (aj.r a0) (aj.r a1)=ret (md a0 a1):=by
 unfold F md
 try simp only [SS]
 refine av ret (fun c1=>?_) (fun _=>rfl)
 all_goals exact fz
def af:cZ 217 aN:=W2 17 F mix aD bC .nil Tryz.func217
end Z60
namespace Z61
def F (x0 x1:aR):az:=(cond x0.aH (ret (4:Int)) (call (Z39.R x0.aM) fun v1=>(cond v1 (ret (5:Int)) (cond (x1.aO<(i64.wrap (x0.aZ+x0.bu))) (ret (5:Int)) (cond x1.aH (ret (6:Int)) (call (Z59.R (x1.aE,x0.aM)) fun v2=>(cond (!v2) (ret (6:Int)) (call (Z60.R (x1,x0)) fun v3=>(cond (!v3) (ret (6:Int)) (ret (1:Int)))))))))))
def md (a0 a1:aj):Int:=(cond a0.aH (4:Int) (cond (Z39.md a0.aM) (5:Int) (cond (a1.aO<(i64.wrap (a0.aZ+a0.bu))) (5:Int) (cond a1.aH (6:Int) (cond (!(Z59.md a1.aE a0.aM)) (6:Int) (cond (!(Z60.md a1 a0)) (6:Int) (1:Int)))))))
def gd (a0 a1:aj):Prop:=(aj.Sm (2^21) a0)/\(aj.Sm (2^21) a1)
def R:=dO gd md
def au {a0 a1}(h:gd a0 a1):R ((aj.r a0),(aj.r a1))=some (md a0 a1):=dN h
def aN:=CN [.agg nQ,.agg nQ] oI RT.dec R
def bC (a0)(a1)(hg:gd a0 a1):F (aj.r a0) (aj.r a1)=ret (md a0 a1):=by
 obtain ⟨H0,H1⟩:=hg
 unfold F md
 try simp only [SS]
 refine av ret (fun _=>rfl) (fun c1=>?_)
 refine ct (Z39.au trivial) ?_
 refine av ret (fun _=>rfl) (fun c2=>?_)
 refine av ret (fun _=>rfl) (fun c3=>?_)
 refine av ret (fun _=>rfl) (fun c4=>?_)
 refine ct (Z59.au ⟨H1.1,H0.2.1⟩) ?_
 refine av ret (fun _=>rfl) (fun c5=>?_)
 refine ct (Z60.au trivial) ?_
 refine av ret (fun _=>rfl) (fun _=>rfl)
def af:cZ 175 aN:=W2 39 F mix aD bC (pG Z39.af Z59.af Z60.af) Tryz.func175
end Z61
namespace Z62
def F (x0 x1:aR):az:=(call (Z39.R x0.aK) fun v1=>(cond v1 (ret (5:Int)) (cond (x1.aH==x0.aH) (ret (6:Int)) (call (Z60.R (x1,x0)) fun v2=>(cond (!v2) (ret (6:Int)) (call (Z59.R (x1.aK,x0.aK)) fun v3=>(cond (!v3) (ret (6:Int)) (call (Z59.R (x1.aM,x0.aM)) fun v4=>(cond (!v4) (ret (6:Int)) (cond (x1.bu != x0.bu) (ret (6:Int)) (cond x1.aH (call (Z59.R (x1.aE,x0.aE)) fun v5=>(cond (!v5) (ret (6:Int)) (ret (1:Int)))) (ret (1:Int)))))))))))))
def md (a0 a1:aj):Int:=(cond (Z39.md a0.aK) (5:Int) (cond (a1.aH==a0.aH) (6:Int) (cond (!(Z60.md a1 a0)) (6:Int) (cond (!(Z59.md a1.aK a0.aK)) (6:Int) (cond (!(Z59.md a1.aM a0.aM)) (6:Int) (cond (a1.bu != a0.bu) (6:Int) (cond a1.aH (cond (!(Z59.md a1.aE a0.aE)) (6:Int) (1:Int)) (1:Int))))))))
def gd (a0 a1:aj):Prop:=(aj.Sm (2^21) a0)/\(aj.Sm (2^21) a1)
def R:=dO gd md
def au {a0 a1}(h:gd a0 a1):R ((aj.r a0),(aj.r a1))=some (md a0 a1):=dN h
def aN:=CN [.agg nQ,.agg nQ] oI RT.dec R
def bC (a0)(a1)(hg:gd a0 a1):F (aj.r a0) (aj.r a1)=ret (md a0 a1):=by
 obtain ⟨H0,H1⟩:=hg
 unfold F md
 try simp only [SS]
 refine ct (Z39.au trivial) ?_
 refine av ret (fun _=>rfl) (fun c1=>?_)
 refine av ret (fun _=>rfl) (fun c2=>?_)
 refine ct (Z60.au trivial) ?_
 refine av ret (fun _=>rfl) (fun c3=>?_)
 refine ct (Z59.au ⟨H1.2.2,H0.2.2⟩) ?_
 refine av ret (fun _=>rfl) (fun c4=>?_)
 refine ct (Z59.au ⟨H1.2.1,H0.2.1⟩) ?_
 refine av ret (fun _=>rfl) (fun c5=>?_)
 refine av ret (fun _=>rfl) (fun c6=>?_)
 refine av ret (fun c7=>?_) (fun _=>rfl)
 refine ct (Z59.au ⟨H1.1,H0.1⟩) ?_
 refine av ret (fun _=>rfl) (fun _=>rfl)
def af:cZ 176 aN:=W2 55 F mix aD bC (pG Z39.af Z60.af Z59.af) Tryz.func176
end Z62
namespace Z63
def F (x0:aR)(x1:aB):az:=(call (Z40.R x0) fun v1=>(cond (!v1) (ret (2:Int)) (call (Z40.R x1.an) fun v2=>(cond (!v2) (ret (2:Int)) (cond (x1.an.bq != x0.bq) (ret (3:Int)) (cond (x1.an.aY != (i64.wrap (x0.aY+1))) (ret (3:Int)) (call (Z50.R x0) fun v3=>(cond (x1.an.bW != v3) (ret (3:Int)) (cond (x1.an.aO<x0.aO) (ret (3:Int)) (call (Z57.R (x0,x1.an)) fun v4=>(cond (x1.an.aP==2) (call (Z61.R (x0,x1.an)) fun v5=>(cond (v5==1) (call (Z43.R x1.an) fun v6=>(call (Z55.R (x0.aM,v6,x1.eB)) fun v7=>(cond (!v7) (ret (7:Int)) (ret (v5:Int))))) (ret (v5:Int)))) (cond (x1.an.aP==3) (call (Z62.R (x0,x1.an)) fun v8=>(cond (v8==1) (call (Z43.R x1.an) fun v9=>(call (Z55.R (x0.aK,v9,x1.eB)) fun v10=>(cond (!v10) (ret (7:Int)) (ret (v8:Int))))) (ret (v8:Int)))) (cond (v4==1) (call (Z43.R x1.an) fun v11=>(call (Z55.R (x0.aE,v11,x1.eB)) fun v12=>(cond (!v12) (ret (7:Int)) (ret (v4:Int))))) (ret (v4:Int)))))))))))))))
def md (a0:aj)(a1:aa):Int:=(cond (!(Z40.md a0)) (2:Int) (cond (!(Z40.md a1.an)) (2:Int) (cond (a1.an.bq != a0.bq) (3:Int) (cond (a1.an.aY != (i64.wrap (a0.aY+1))) (3:Int) (cond (a1.an.bW != (Z50.md a0)) (3:Int) (cond (a1.an.aO<a0.aO) (3:Int) (cond (a1.an.aP==2) (cond ((Z61.md a0 a1.an)==1) (cond (!(Z55.md a0.aM (Z43.md a1.an) a1.eB)) (7:Int) ((Z61.md a0 a1.an):Int)) ((Z61.md a0 a1.an):Int)) (cond (a1.an.aP==3) (cond ((Z62.md a0 a1.an)==1) (cond (!(Z55.md a0.aK (Z43.md a1.an) a1.eB)) (7:Int) ((Z62.md a0 a1.an):Int)) ((Z62.md a0 a1.an):Int)) (cond ((Z57.md a0 a1.an)==1) (cond (!(Z55.md a0.aE (Z43.md a1.an) a1.eB)) (7:Int) ((Z57.md a0 a1.an):Int)) ((Z57.md a0 a1.an):Int))))))))))
def gd (a0:aj)(a1:aa):Prop:=(aj.Sm (2^21) a0)/\(aa.Sm (2^21) a1)
def R:=dO gd md
def au {a0 a1}(h:gd a0 a1):R ((aj.r a0),(aa.r a1))=some (md a0 a1):=dN h
def aN:=CN [.agg nQ,.agg zp] oI RT.dec R
def bC (a0)(a1)(hg:gd a0 a1):F (aj.r a0) (aa.r a1)=ret (md a0 a1):=by
 obtain ⟨H0,H1⟩:=hg
 unfold F md
 try simp only [SS]
 refine ct (Z40.au H0) ?_
 refine av ret (fun _=>rfl) (fun c1=>?_)
 have dc1:=c1
 try simp only [DC] at dc1
 try have tc1:=Z40.tr (by simpa using c1)
 refine ct (Z40.au H1.1) ?_
 refine av ret (fun _=>rfl) (fun c2=>?_)
 have dc2:=c2
 try simp only [DC] at dc2
 try have tc2:=Z40.tr (by simpa using c2)
 refine av ret (fun _=>rfl) (fun c3=>?_)
 have dc3:=c3
 try simp only [DC] at dc3
 refine av ret (fun _=>rfl) (fun c4=>?_)
 have dc4:=c4
 try simp only [DC] at dc4
 refine ct (Z50.au H0) ?_
 refine av ret (fun _=>rfl) (fun c5=>?_)
 have dc5:=c5
 try simp only [DC] at dc5
 refine av ret (fun _=>rfl) (fun c6=>?_)
 have dc6:=c6
 try simp only [DC] at dc6
 refine ct (Z57.au trivial) ?_
 refine av ret (fun c7=>?_) (fun c7=>?_)
 ·have dc7:=c7
  try simp only [DC] at dc7
  refine ct (Z61.au ⟨H0,H1.1⟩) ?_
  refine av ret (fun c8=>?_) (fun c8=>?_)
  ·have dc8:=c8
   try simp only [DC] at dc8
   refine ct (Z43.au H1.1) ?_
   try simp only [SS]
   refine ct (Z55.au ⟨H0.2.1,⟨(have:=Z43.len a1.an;have:=(H1.1.1).1;have:=(H1.1.2.1).1;have:=(H1.1.2.2).1;om),fun _ _=>trivial⟩,H1.2⟩) ?_
   refine av ret (fun _=>rfl) (fun c9=>?_)
   all_goals exact fz
  ·all_goals exact fz
 ·have dc7:=c7
  try simp only [DC] at dc7
  refine av ret (fun c10=>?_) (fun c10=>?_)
  ·have dc10:=c10
   try simp only [DC] at dc10
   refine ct (Z62.au ⟨H0,H1.1⟩) ?_
   refine av ret (fun c11=>?_) (fun c11=>?_)
   ·have dc11:=c11
    try simp only [DC] at dc11
    refine ct (Z43.au H1.1) ?_
    try simp only [SS]
    refine ct (Z55.au ⟨H0.2.2,⟨(have:=Z43.len a1.an;have:=(H1.1.1).1;have:=(H1.1.2.1).1;have:=(H1.1.2.2).1;om),fun _ _=>trivial⟩,H1.2⟩) ?_
    refine av ret (fun _=>rfl) (fun c12=>?_)
    all_goals exact fz
   ·all_goals exact fz
  ·have dc10:=c10
   try simp only [DC] at dc10
   refine av ret (fun c13=>?_) (fun c13=>?_)
   ·have dc13:=c13
    try simp only [DC] at dc13
    refine ct (Z43.au H1.1) ?_
    try simp only [SS]
    refine ct (Z55.au ⟨H0.1,⟨(have:=Z43.len a1.an;have:=(H1.1.1).1;have:=(H1.1.2.1).1;have:=(H1.1.2.2).1;om),fun _ _=>trivial⟩,H1.2⟩) ?_
    refine av ret (fun _=>rfl) (fun c14=>?_)
    all_goals exact fz
   ·all_goals exact fz
def af:cZ 137 aN:=W2 78 F mix aD bC (CU Z40.af Z50.af Z57.af Z61.af Z43.af Z55.af Z62.af) Tryz.func137
end Z63
namespace Z64
def F (x0:aR)(x1:aB):az:=(call (Z63.R (x0,x1)) fun v1=>ret ((v1==1):Bool))
def md (a0:aj)(a1:aa):Bool:=(((Z63.md a0 a1)==1):Bool)
def gd (a0:aj)(a1:aa):Prop:=(aj.Sm (2^21) a0)/\(aa.Sm (2^21) a1)
def R:=dO gd md
def au {a0 a1}(h:gd a0 a1):R ((aj.r a0),(aa.r a1))=some (md a0 a1):=dN h
def aN:=CN [.agg nQ,.agg zp] oB RT.dec R
def bC (a0)(a1)(hg:gd a0 a1):F (aj.r a0) (aa.r a1)=ret (md a0 a1):=by
 obtain ⟨H0,H1⟩:=hg
 unfold F md
 try simp only [SS]
 refine ct (Z63.au ⟨H0,H1⟩) ?_
 all_goals exact fz
def af:cZ 92 aN:=W2 9 F mix aD bC (dR Z63.af) Tryz.func92
end Z64
namespace Z65
inductive Pt where
 | p0 (a:ak) (b:Int)
def dM:Pt->List V
 | .p0 a b=>[.sl none 78 a,.int .i64 b]
def step (J:Pt->az):Pt->az
 | .p0 a b=>(cond (b<(a.length:Int)) (cond (b==0) (dZ ((0:Int)<(a.length:Int)) (call (Z56.R (aB.at a 0)) fun v1=>(cond (!v1) (ret (b:Int)) (cond (b>0) (dZ ((0:Int)<=(i64.wrap (b - 1))) (dZ ((i64.wrap (b - 1))<(a.length:Int)) (m2 b (a.length:Int) (call (Z64.R ((aB.at a (toNat (i64.wrap (b - 1)))).an,(aB.at a (toNat b)))) fun v2=>(cond (!v2) (ret (b:Int)) (J (.p0 a (i64.wrap (b+1))))))))) (J (.p0 a (i64.wrap (b+1)))))))) (cond (b>0) (dZ ((0:Int)<=(i64.wrap (b - 1))) (dZ ((i64.wrap (b - 1))<(a.length:Int)) (m2 b (a.length:Int) (call (Z64.R ((aB.at a (toNat (i64.wrap (b - 1)))).an,(aB.at a (toNat b)))) fun v3=>(cond (!v3) (ret (b:Int)) (J (.p0 a (i64.wrap (b+1))))))))) (J (.p0 a (i64.wrap (b+1)))))) vP)
def start (J:Pt->az)(x0:ak):az:=J (.p0 x0 0)
def live:Nat->Live:=kA [(2,nP [0,3])]
def md (a0:List aa):Int:=(dX (S:=Unit) (β:=Int) (fun (i1:Nat) (y1:aa) (s3:Unit)=>(cond ((i1:Int)==0) (cond (!(Z56.md (a0.getD 0 aa.zero))) (.inr ((i1:Int):Int)) (cond ((i1:Int)>0) (cond (!(Z64.md ((a0.getD (toNat (i64.wrap ((i1:Int) - 1))) aa.zero).an) y1)) (.inr ((i1:Int):Int)) (.inl ())) (.inl ()))) (cond ((i1:Int)>0) (cond (!(Z64.md ((a0.getD (toNat (i64.wrap ((i1:Int) - 1))) aa.zero).an) y1)) (.inr ((i1:Int):Int)) (.inl ())) (.inl ())))) (fun (s3:Unit)=>((-1):Int)) 0 a0 ())
def gd (a0:List aa):Prop:=(cw (2^21) (fun y:aa=>aa.Sm (2^21) y) a0)
def R:=RR gd md
def au {a0}(h:gd a0):R (a0.map aa.row)=some (md a0):=dJ h
def aN:=CN [pL 78] oI RT.dec R
def bC (a0)(hg:gd a0):∃n,start (iter step n) (a0.map aa.row)=ret (md a0):=by
 unfold gd at hg
 have H0:=hg
 unfold start md
 try simp only [SS]
 have Bh2:a0.length<=maxLen:=(by
   have:=(H0).1
   try simp only [maxLen] at *
   omega)
 refine ex_eq (out:=ret) (cX (z:=aa.zero)) ?_
 refine eO (p:=Pt.p0 (a0.map aa.row) 0) fz ?_
 refine cH (pt:=fun (i1:Nat) (s3:Unit)=>Pt.p0 (a0.map aa.row) (i1:Int)) (s:=(():Unit)) (out:=ret) (fun _ _=>True) (fun J i1 s3 h2 hih2=>?_) (fun s3 hih2=>?_) trivial
 ·simp only [step,SS]
  have bb_:=Bh2
  simp only [maxLen] at bb_
  have:=(H0).1
  refine bp.yes (by apply decide_eq_true;omega) ?_
  refine bp.bif (fun c4=>?_) (fun c4=>?_)
  ·have dc4:=c4
   try simp only [DC] at dc4
   refine bp.yes (have:=(H0).1;dt) ?_
   refine cr (Z56.au (cw.getD (z:=aa.zero) H0 (by first | assumption | omega | (simp (disch:=omega) only [wi];omega) | (simp;omega)))) ?_
   refine bp.bif (fun c5=>?_) (fun c5=>?_)
   ·refine bp.inr ?_
    all_goals exact fz
   ·have dc5:=c5
    try simp only [DC] at dc5
    refine bp.bif (fun c6=>?_) (fun c6=>?_)
    ·have dc6:=c6
     try simp only [DC] at dc6
     refine bp.yes dt ?_
     refine bp.yes (have:=(H0).1;dt) ?_
     refine bp.yes bJ ?_
     refine bp.yes (cA h2) ?_
     refine cr (Z64.au ⟨(cw.getD (z:=aa.zero) H0 (by first | assumption | omega | (simp (disch:=omega) only [wi];omega) | (simp;omega))).1,(cw.getD (z:=aa.zero) H0 h2)⟩) ?_
     refine bp.bif (fun c7=>?_) (fun c7=>?_)
     ·refine bp.inr ?_
      all_goals exact fz
     ·refine bp.inl trivial ?_
      rw [aT h2 Bh2]
      all_goals exact fz
    ·refine bp.inl trivial ?_
     rw [aT h2 Bh2]
     all_goals exact fz
  ·have dc4:=c4
   try simp only [DC] at dc4
   refine bp.bif (fun c8=>?_) (fun c8=>?_)
   ·have dc8:=c8
    try simp only [DC] at dc8
    refine bp.yes dt ?_
    refine bp.yes (have:=(H0).1;dt) ?_
    refine bp.yes bJ ?_
    refine bp.yes (cA h2) ?_
    refine cr (Z64.au ⟨(cw.getD (z:=aa.zero) H0 (by first | assumption | omega | (simp (disch:=omega) only [wi];omega) | (simp;omega))).1,(cw.getD (z:=aa.zero) H0 h2)⟩) ?_
    refine bp.bif (fun c9=>?_) (fun c9=>?_)
    ·refine bp.inr ?_
     all_goals exact fz
    ·refine bp.inl trivial ?_
     rw [aT h2 Bh2]
     all_goals exact fz
   ·refine bp.inl trivial ?_
    rw [aT h2 Bh2]
    all_goals exact fz
 ·simp only [step,SS]
  have:=(H0).1
  refine eM (by apply decide_eq_false;omega) ?_
  refine ⟨0,?_⟩
  all_goals exact fz
def af:cZ 42 aN:=L1 38 (fun _=>2) dM (fun _=>[]) live step start mix aD bC (gD Z56.af Z64.af) Tryz.func42
end Z65
namespace Z66
def F (x0:ak):az:=(call (Z15.R ((x0.length:Int),1,12)) fun v1=>(cond v1 (call (Z65.R x0) fun v2=>ret ((decide (v2<0)):Bool)) bL))
def md (a0:List aa):Bool:=(cond (Z15.md (a0.length:Int) 1 12) ((decide ((Z65.md a0)<0)):Bool) (false:Bool))
def gd (a0:List aa):Prop:=(cw (2^21) (fun y:aa=>aa.Sm (2^21) y) a0)
def R:=RR gd md
def au {a0}(h:gd a0):R (a0.map aa.row)=some (md a0):=dJ h
def aN:=CN [pL 78] oB RT.dec R
def bC (a0)(hg:gd a0):F (a0.map aa.row)=ret (md a0):=by
 unfold gd at hg
 have H0:=hg
 unfold F md
 try simp only [SS]
 refine ct (Z15.au trivial) ?_
 refine av ret (fun c1=>?_) (fun _=>rfl)
 refine ct (Z65.au H0) ?_
 all_goals exact fz
def af:cZ 11 aN:=W1 11 F mix aD bC (gD Z15.af Z65.af) Tryz.func11
def tr {a0:List aa}(h:md a0=true):1<=a0.length/\a0.length<=12:=by simp [md,Z15.md] at h;omega
def qz {l:List aa}(h:md l=true):∀i,i<l.length->Z40.md (l.getD i aa.zero).an=true:=by
 intro i hi
 have hl:=tr h
 have h1:Z65.md l<0:=by
  unfold md at h
  cases hc:Z15.md (l.length:Int) 1 12<;>rw [hc] at h
  ·cases h
  ·simpa using h
 unfold Z65.md at h1
 have h2:=tS (z:=aa.zero) (by
  intro i x s b h
  revert h
  simp only [Bool.cond_eq_ite]
  repeat' split
  all_goals (intro h;first | (cases h;rfl) | cases h)) h1 i hi
 by_cases h0:i=0
 ·subst h0
  cases hf:Z56.md (l.getD 0 aa.zero)
  ·rw [hf] at h2;cases h2
  ·unfold Z56.md at hf
   cases hh:Z40.md (l.getD 0 aa.zero).an
   ·rw [hh] at hf;cases hf
   ·rfl
 ·have e:((i:Int)==0)=false:=beq_eq_false_iff_ne.2 (by omega)
  have e2:decide ((i:Int)>0)=true:=by simpa using by omega
  simp only [e,e2,aL,aC] at h2
  cases hf:Z64.md ((l.getD (toNat (i64.wrap ((i:Int) - 1))) aa.zero).an) (l.getD i aa.zero)
  ·rw [hf] at h2;cases h2
  ·unfold Z64.md Z63.md at hf
   cases hh:Z40.md (l.getD i aa.zero).an
   ·rw [hh] at hf
    cases hp:Z40.md ((l.getD (toNat (i64.wrap ((i:Int) - 1))) aa.zero).an)<;>rw [hp] at hf<;>cases hf
   ·rfl
end Z66
namespace Z67
def F (x0:ak):az:=(call (Z66.R x0) fun v1=>(cond (!v1) (ret (((⟨0,0,0,0,0,0,0,0,(⟨[],0⟩:aX),(⟨[],0⟩:aX),0,(⟨[],0⟩:aX),false⟩:aR),false):aR×Bool)) (dZ ((0:Int)<=(i64.wrap ((x0.length:Int) - 1))) (dZ ((i64.wrap ((x0.length:Int) - 1))<(x0.length:Int)) (call (Z42.R ((aB.at x0 (toNat (i64.wrap ((x0.length:Int) - 1)))).an)) fun v2=>ret ((v2,true):aR×Bool))))))
def md (a0:List aa):aj×Bool:=(cond (!(Z66.md a0)) ((⟨0,0,0,0,0,0,0,0,(⟨[],0⟩:aq),(⟨[],0⟩:aq),0,(⟨[],0⟩:aq),false⟩:aj),false) (((a0.getD (toNat (i64.wrap ((a0.length:Int) - 1))) aa.zero).an),true))
def gd (a0:List aa):Prop:=(cw (2^21) (fun y:aa=>aa.Sm (2^21) y) a0)
def R:=RR gd md
def au {a0}(h:gd a0):R (a0.map aa.row)=some ((aj.r (md a0).1),(md a0).2):=dJ h
def aN:=CN [pL 78] (.gL [(true,f35),(false,[fB])]) RT.dec R
def bC (a0)(hg:gd a0):F (a0.map aa.row)=ret ((aj.r (md a0).1),(md a0).2):=by
 unfold gd at hg
 have H0:=hg
 unfold F md
 try simp only [SS]
 refine ct (Z66.au H0) ?_
 refine av (fun b:aj×Bool=>ret (((aj.r b.1),b.2):aR×Bool)) (fun c1=>?_) (fun c1=>?_)
 ·all_goals exact fz
 ·have dc1:=c1
  try simp only [DC] at dc1
  try have tc1:=Z66.tr (by simpa using c1)
  refine bn (have:=(H0).1;dt) ?_
  refine bn (have:=(H0).1;dt) ?_
  refine ct (Z42.au (cw.getD (z:=aa.zero) H0 (by first | assumption | omega | (simp (disch:=omega) only [wi];omega) | (simp;omega))).1) ?_
  try simp only [SS]
  all_goals exact fz
def af:cZ 12 aN:=W1 16 F mix aD bC (gD Z66.af Z42.af) Tryz.func12
def uQ {a0:List aa}(hg:gd a0):aj.Sm (2^21) ((md a0).1):=by
 unfold gd at hg;unfold md
 cases h:Z66.md a0
 ·exact ⟨cw.nil,cw.nil,cw.nil⟩
 ·have:=Z66.tr h
  exact (cw.getD hg (by simp (disch:=omega) only [Go.IntWalk.i64_in];omega)).1
def head {l:List aa}(h:(md l).2=true):Z66.md l=true/\(md l).1=(l.getD (l.length - 1) aa.zero).an/\Z40.md (md l).1=true:=by
 unfold md at h ⊢
 cases hc:Z66.md l
 ·rw [hc] at h;cases h
 ·have hl:=Z66.tr hc
  have hw:toNat (i64.wrap ((l.length:Int) - 1))=l.length - 1:=by
   rw [Go.IntWalk.i64_in _ (by omega)];omega
  simp only [Bool.not_true,aL,hw]
  exact ⟨trivial,trivial,Z66.qz hc _ (by omega)⟩
end Z67
namespace Z68
def F (x0:aB):az:=(call (Z42.R x0.an) fun v1=>(dZ (gy ((x0.eB.length:Int)*16)) (ret ((⟨v1,x0.eB⟩:aB):aB))))
def md (a0:aa):aa:=a0
def gd (a0:aa):Prop:=(aa.Sm (2^21) a0)
def R:=RR gd md
def au {a0}(h:gd a0):R (aa.r a0)=some (aa.r a0):=dJ h
def aN:=CN [.agg zp] (.agg f78) RT.dec R
def bC (a0)(hg:gd a0):F (aa.r a0)=ret (aa.r (md a0)):=by
 unfold gd at hg
 have H0:=hg
 unfold F md
 try simp only [SS]
 refine ct (Z42.au H0.1) ?_
 try simp only [SS]
 refine bn (have:=(H0.2).1;lm) ?_
 all_goals exact fz
def af:cZ 180 aN:=W1 11 F mix aD bC (dR Z42.af) Tryz.func180
end Z68
namespace Z69
inductive Pt where
 | p0 (a:ak) (b:Int) (c:ak)
def dM:Pt->List V
 | .p0 a b c=>[.sl none 78 a,.own 0,.int .i64 b]
def fk:Pt->List aA
 | .p0 a b c=>[.row 78 c]
def step (J:Pt->az):Pt->az
 | .p0 a b c=>(cond (b<(a.length:Int)) (m2 b (a.length:Int) (call (Z68.R (aB.at a (toNat b))) fun v1=>(dZ (gy (((c.length:Int)+1)*200)) (J (.p0 a (i64.wrap (b+1)) (c++[(aB.enc v1)])))))) (ret (c:ak)))
def start (J:Pt->az)(x0:ak):az:=J (.p0 x0 0 [])
def live:Nat->Live:=kA [(3,[(0,none),(3,some 78),(4,none)])]
def md (a0:List aa):List aa:=a0
def gd (a0:List aa):Prop:=(cw (2^21) (fun y:aa=>aa.Sm (2^21) y) a0)
def R:=RR gd md
def au {a0}(h:gd a0):R (a0.map aa.row)=some (a0.map aa.row):=dJ h
def aN:=CN [pL 78] (oL 78) RT.dec R
def bC (a0)(hg:gd a0):∃n,start (iter step n) (a0.map aa.row)=ret ((md a0).map aa.row):=by
 unfold gd at hg
 have H0:=hg
 unfold start md
 try simp only [SS]
 have Bh2:a0.length<=maxLen:=(by
   have:=(H0).1
   try simp only [maxLen] at *
   omega)
 refine ex_eq (out:=(fun b:List aa=>ret ((b.map aa.row):ak))) (sB (xs:=a0) (z:=aa.zero) (t:=fun s3:List aa=>s3)) ?_
 refine eO (p:=Pt.p0 (a0.map aa.row) 0 ([].map aa.row)) fz ?_
 refine cH (pt:=fun (i1:Nat) (s3:List aa)=>Pt.p0 (a0.map aa.row) (i1:Int) (s3.map aa.row)) (s:=([]:List aa)) (out:=(fun b:List aa=>ret ((b.map aa.row):ak))) (fun (i1:Nat) (s3:List aa)=>s3.length<=([]:List Int).length+1*i1) (fun J i1 s3 h2 hih2=>?_) (fun s3 hih2=>?_) (by simp)
 ·simp only [step,SS]
  have gr_:=hih2
  try simp only [LN] at gr_
  have bb_:=Bh2
  simp only [maxLen] at bb_
  have:=(H0).1
  refine bp.yes (by apply decide_eq_true;omega) ?_
  refine bp.yes bJ ?_
  refine bp.yes (cA h2) ?_
  refine cr (Z68.au (cw.getD (z:=aa.zero) H0 h2)) ?_
  try simp only [SS]
  refine bp.yes lm ?_
  refine bp.inl (by
    have g_:=hih2
    try simp only [LN] at g_ ⊢
    first | omega | (simp;done) | (simp;omega)) ?_
  rw [aT h2 Bh2]
  all_goals exact fz
 ·simp only [step,SS]
  have gr_:=hih2
  try simp only [LN] at gr_
  have:=(H0).1
  refine eM (by apply decide_eq_false;omega) ?_
  refine ⟨0,?_⟩
  all_goals exact fz
def af:cZ 154 aN:=L1 21 (fun _=>3) dM fk live step start mix aD bC (dR Z68.af) Tryz.func154
end Z69
namespace Z70
def F (x0:ak)(x1:aB):az:=(call (Z67.R x0) fun v1=>(cond (!v1.2) (call (Z69.R x0) fun v2=>ret ((v2,2):ak×Int)) (cond ((x0.length:Int)>=12) (call (Z69.R x0) fun v3=>ret ((v3,2):ak×Int)) (call (Z63.R (v1.1,x1)) fun v4=>(cond (v4 != 1) (call (Z69.R x0) fun v5=>ret ((v5,v4):ak×Int)) (call (Z69.R x0) fun v6=>(call (Z68.R x1) fun v7=>(dZ (gy (((v6.length:Int)+1)*200)) (ret (((v6++[(aB.enc v7)]),1):ak×Int))))))))))
def md (a0:List aa)(a1:aa):List aa×Int:=(cond (!(Z67.md a0).2) (a0,2) (cond ((a0.length:Int)>=12) (a0,2) (cond ((Z63.md ((Z67.md a0).1) a1) != 1) (a0,(Z63.md ((Z67.md a0).1) a1)) ((a0++[a1]),1))))
def gd (a0:List aa)(a1:aa):Prop:=(cw (2^21) (fun y:aa=>aa.Sm (2^21) y) a0)/\(aa.Sm (2^21) a1)
def R:=dO gd md
def au {a0 a1}(h:gd a0 a1):R ((a0.map aa.row),(aa.r a1))=some (((md a0 a1).1.map aa.row),(md a0 a1).2):=dN h
def aN:=CN [pL 78,.agg zp] (.gL [(false,[.fr 78]),(false,[fI])]) RT.dec R
def bC (a0)(a1)(hg:gd a0 a1):F (a0.map aa.row) (aa.r a1)=ret (((md a0 a1).1.map aa.row),(md a0 a1).2):=by
 obtain ⟨H0,H1⟩:=hg
 unfold F md
 try simp only [SS]
 refine ct (Z67.au H0) ?_
 try simp only [SS]
 refine av (fun b:List aa×Int=>ret (((b.1.map aa.row),b.2):ak×Int)) (fun c1=>?_) (fun c1=>?_)
 ·refine ct (Z69.au H0) ?_
  try simp only [SS]
  all_goals exact fz
 ·have dc1:=c1
  try simp only [DC] at dc1
  refine av (fun b:List aa×Int=>ret (((b.1.map aa.row),b.2):ak×Int)) (fun c2=>?_) (fun c2=>?_)
  ·refine ct (Z69.au H0) ?_
   try simp only [SS]
   all_goals exact fz
  ·have dc2:=c2
   try simp only [DC] at dc2
   refine ct (Z63.au ⟨(Z67.uQ (a0:=a0) H0),H1⟩) ?_
   refine av (fun b:List aa×Int=>ret (((b.1.map aa.row),b.2):ak×Int)) (fun c3=>?_) (fun c3=>?_)
   ·refine ct (Z69.au H0) ?_
    try simp only [SS]
    all_goals exact fz
   ·have dc3:=c3
    try simp only [DC] at dc3
    refine ct (Z69.au H0) ?_
    try simp only [SS]
    refine ct (Z68.au H1) ?_
    try simp only [SS]
    refine bn (have:=(H0).1;lm) ?_
    all_goals exact fz
def af:cZ 139 aN:=W2 37 F mix aD bC (wL Z67.af Z69.af Z63.af Z68.af) Tryz.func139
def AP (a0:List aa)(a1:aa):(md a0 a1).1=a0∨(md a0 a1).1=a0++[a1]:=by
 unfold md
 cases (!(Z67.md a0).2)<;>simp only [aC,aL]
 ·cases decide ((a0.length:Int)>=12)<;>simp only [aC,aL]
  ·cases (Z63.md ((Z67.md a0).1) a1) != 1<;>simp only [aC,aL]
   ·simp
   ·simp
  ·simp
 ·simp
def Bg (a0:List aa)(a1:aa):(md a0 a1).1.length<=a0.length+1:=by
 rcases AP a0 a1 with h | h<;>rw [h]<;>simp
def CJ (a0:List aa)(a1:aa):a0.length<=(md a0 a1).1.length:=by
 rcases AP a0 a1 with h | h<;>rw [h]<;>simp
def DN {a0:List aa}{a1:aa}(s:aa)(hs:s∈(md a0 a1).1):s∈a0∨s=a1:=by
 rcases AP a0 a1 with h | h<;>rw [h] at hs
 ·exact .inl hs
 ·rcases List.mem_append.1 hs with h1 | h1
  ·exact .inl h1
  ·exact .inr (List.mem_singleton.1 h1)
end Z70
namespace Z71
inductive Pt where
 | p0 (a b c:Int) (d e:ak)
def pid:Pt->Nat
 | .p0 ..=>3
def dM:Pt->List V
 | .p0 a b c d e=>[.bB 0 0,.own 2,.int .i64 a]
def fk:Pt->List aA
 | .p0 a b c d e=>[.box [.own 1,.int .i64 b,.int .i64 c],.vw 5 d,.row 78 e]
def step (J:Pt->az):Pt->az
 | .p0 a b c d e=>(cond (a>0) (dZ ((0:Int)<=(i64.wrap ((e.length:Int) - 1))) (dZ ((i64.wrap ((e.length:Int) - 1))<(e.length:Int)) (call (Z52.R (d,b,c,(aB.at e (toNat (i64.wrap ((e.length:Int) - 1)))).an)) fun v1=>(call (Z70.R (e,v1.2.2.2)) fun v2=>J (.p0 (i64.wrap (a - 1)) v1.2.1 v1.2.2.1 d v2.1))))) (ret ((Hl.mk,b,c,e):Hl×Int×Int×ak)))
def start (J:Pt->az)(x0:ak)(x1 x2:Int):az:=(call (Z49.R (x0,x1,x2)) fun v1=>(call (Z3.R (x0,v1.2.1,v1.2.2.1,5)) fun v2=>J (.p0 v2.2.2.2 v2.2.1 v2.2.2.1 x0 [(aB.enc v1.2.2.2)])))
def live:Nat->Live:=kA [(3,[(0,none),(3,some 78),(4,none)])]
abbrev bQ:List K:=[.sl 5,aG,aG]
def pats:List (Option eS):=[none]
def res:RP:=.one (.fr 78)
abbrev E:Env:={ T:=assoc nH,G:=cQ [(139,Z70.aN)],nt:=29,M:=dV [],np:=(nC bQ),mt:=false,I:=fq [(138,Z49.ic (nC bQ)),(52,Z3.ic (nC bQ)),(140,Z52.ic (nC bQ))] }
def step_eq (I:dL)(p:Pt):dA E live I (pid p) (bN Tryz.f97) (kO (live (pid p)) (dM p) (fk p)) (dI E Tryz.f97 (.cur bQ res.parts))=step (fun q=>I (pid q) (dM q) (fk q)) p:=by
 cases p<;>kernel_rfl
def start_eq (I:dL)(ls:List L):gU E live I (bN Tryz.f97) (eN bQ pats ls) (dI E Tryz.f97 (.cur bQ res.parts))=start (fun q=>I (pid q) (dM q) (fk q)) (eC ls) (bU 1 ls) (bU 2 ls):=by kernel_rfl
def run_eq (n:Nat)(ls:List L):eg E live Tryz.f97 (.cur bQ res.parts) n (eN bQ pats ls)=start (iter step n) (eC ls) (bU 1 ls) (bU 2 ls):=eo (id:=pid) (vs:=dM) (hs:=fk) (step:=step) (start:=fun J=>start J (eC ls) (bU 1 ls) (bU 2 ls)) step_eq (fun I=>start_eq I ls) n
def gd (x0:ak)(x1 x2:Int):Prop:=CI x0 x1
def post (x0:ak)(x1 x2:Int)(y:Hl×Int×Int×ak):Prop:=CI x0 y.2.1/\∃m:List aa,y.2.2.2=m.map aa.row/\cw 12 (fun y:aa=>aa.Sm 64 y) m/\0<m.length
def wp (x0:ak)(x1 x2:Int)(hg:gd x0 x1 x2):∃n,Wp (start (iter step n) x0 x1 x2) (post x0 x1 x2):=by
 have key:∀a d e (m:aa),0<=a->a<=4->CI x0 d->aa.Sm 64 m->∃n,Wp (iter step n (.p0 a d e x0 [aa.row m])) (post x0 x1 x2):=by
  intro a d e m h1 h2 h3 hm
  refine ⟨6,iR (fun p=>match p with | .p0 a b c d e=>0<=a/\a<=4/\CI d b/\d=x0/\∃ms:List aa,e=ms.map aa.row/\(ms.length:Int)+a<=5/\0<ms.length/\∀s∈ms,aa.Sm 64 s) (fun p=>match p with | .p0 a b c d e=>a.toNat) (fun J p hI hJ=>?_) _ _ ⟨h1,h2,h3,rfl,[m],rfl,by show ((1:Nat):Int)+a<=5;omega,Nat.zero_lt_one,fun s hs=>by rw [List.mem_singleton.1 hs];exact hm⟩ (by show a.toNat<6;omega)⟩
  obtain ⟨a,b,c,d,e⟩:=p
  obtain ⟨k1,k2,k3,rfl,ms,rfl,h6,h7,h8⟩:=hI
  have hw:i64.wrap (((ms.map aa.row).length:Int) - 1)=(ms.length:Int) - 1:=by rw [List.length_map];exact wi _ (by omega)
  refine wp_cond (fun c1=>?_) (fun c1=>?_)
  ·have c1:=of_decide_eq_true c1
   have e1:i64.wrap (a - 1)=a - 1:=wi _ (by omega)
   have hat:aB.at (ms.map aa.row) (toNat (i64.wrap (((ms.map aa.row).length:Int) - 1)))=aa.r (ms.getD (ms.length - 1) aa.zero):=by
    rw [hw,show ((ms.length:Int) - 1).toNat=ms.length - 1 by omega]
    unfold aB.at
    rw [List.getD_eq_getElem?_getD,List.getD_eq_getElem?_getD,List.getElem?_map,List.getElem?_eq_getElem (by omega)]
    rfl
   have hsm:aa.Sm 64 (ms.getD (ms.length - 1) aa.zero):=by
    rw [List.getD_eq_getElem?_getD,List.getElem?_eq_getElem (by omega)]
    exact h8 _ (List.getElem_mem _)
   refine cY (decide_eq_true (by rw [hw];omega)) (cY (decide_eq_true (by rw [hw,List.length_map];omega)) ?_)
   rw [hat]
   refine Z52.bD ⟨k3,(ms.getD (ms.length - 1) aa.zero).an,rfl,hsm.1⟩ (fun v1 ⟨d1,m1,e2,g1⟩=>?_)
   rw [e2]
   refine bg (Z70.au (a0:=ms) (a1:=m1) ⟨⟨by omega,fun s hs=>aa.aV (by decide) (h8 s hs)⟩,aa.aV (by decide) g1⟩) (hJ _ ⟨?_,?_,d1,rfl,_,rfl,?_,?_,fun s hs=>?_⟩ ?_)
   ·show 0<=i64.wrap (a - 1);omega
   ·show i64.wrap (a - 1)<=4;omega
   ·have:=Z70.Bg ms m1;rw [e1];omega
   ·exact Nat.lt_of_lt_of_le h7 (Z70.CJ ms m1)
   ·rcases Z70.DN s hs with h | h
    ·exact h8 s h
    ·rw [h];exact g1
   ·show (i64.wrap (a - 1)).toNat<a.toNat;omega
  ·exact wp_ret ⟨k3,ms,rfl,⟨by omega,h8⟩,h7⟩
 obtain ⟨v,hv,pv1,m,em,hm⟩:=Z49.iN hg
 obtain ⟨w,hw,pw1,pw2,pw3⟩:=Z3.iN (x3:=5) pv1
 obtain ⟨h1,h2⟩:=pw3 (by decide)
 obtain ⟨n,hn⟩:=key w.2.2.2 w.2.1 w.2.2.1 m h1 (by omega) pw1 (aa.aV (by decide) hm)
 refine ⟨n,bg hv (bg hw ?_)⟩
 rw [em];exact hn
def R:(ak×Int×Int)->Option (Hl×Int×Int×ak):=RQ (fun n x=>start (iter step n) x.1 x.2.1 x.2.2) (fun x=>post x.1 x.2.1 x.2.2)
def bD {x0:ak}{x1 x2:Int}{γ:Type}[RT γ]{k:(Hl×Int×Int×ak)->az}{Q:γ->Prop}(hg:gd x0 x1 x2)(hk:∀y,post x0 x1 x2 y->Wp (k y) Q):Wp (call (R (x0,x1,x2)) k) Q:=cK (wp x0 x1 x2 hg) hk
def acc (ls:List L):ak×Int×Int:=((eC ls),(bU 1 ls),(bU 2 ls))
def aN:gE:=CC bQ pats res acc R
def af:dU Tryz.prog Ev 97 aN:=VC (live:=live) (mt:=false) mix aD (dR Z70.af) .nil (.cons (Z49.aU (nC bQ)) (.cons (Z3.aU (nC bQ)) (.cons (Z52.aU (nC bQ)) .nil))) Tryz.func97 (by kernel_rfl) run_eq
def ic (_:Nat):eR:=gO Ev aN
def aU (n:Nat):cP Tryz.prog Ev n 97 (ic n):=cF af
end Z71
namespace Z72
def F (x0:ak)(x1 x2:Int):az:=(call (Z3.R (x0,x1,x2,50)) fun v1=>(call (Z3.R (x0,v1.2.1,v1.2.2.1,4)) fun v2=>(call (Z3.R (x0,v2.2.1,v2.2.2.1,3)) fun v3=>(call (Z3.R (x0,v3.2.1,v3.2.2.1,40)) fun v4=>(call (Z3.R (x0,v4.2.1,v4.2.2.1,90)) fun v5=>(call (Z3.R (x0,v5.2.1,v5.2.2.1,9)) fun v6=>(call (Z3.R (x0,v6.2.1,v6.2.2.1,5)) fun v7=>(call (Z4.R (x0,v7.2.1,v7.2.2.1)) fun v8=>(call (Z3.R (x0,v8.2.1,v8.2.2.1,60)) fun v9=>(call (Z51.R (x0,v9.2.1,v9.2.2.1,2)) fun v10=>(cond v10.2.2.2 (call (Z4.R (x0,v10.2.1,v10.2.2.1)) fun v11=>(call (Z3.R (x0,v11.2.1,v11.2.2.1,30)) fun v12=>(call (Z51.R (x0,v12.2.1,v12.2.2.1,2)) fun v13=>(cond v13.2.2.2 (call (Z4.R (x0,v13.2.1,v13.2.2.1)) fun v14=>(call (Z51.R (x0,v14.2.1,v14.2.2.1,3)) fun v15=>ret ((Hl.mk,v15.2.1,v15.2.2.1,(⟨v1.2.2.2,v2.2.2.2,(i64.wrap (1+v3.2.2.2)),v4.2.2.2,(i64.wrap (v4.2.2.2+v9.2.2.2)),v7.2.2.2,v5.2.2.2,v6.2.2.2,v8.2.2.2,v11.2.2.2,(i64.wrap (1+v12.2.2.2)),v14.2.2.2,v15.2.2.2⟩:aR)):Hl×Int×Int×aR))) (ret ((Hl.mk,v13.2.1,v13.2.2.1,(⟨v1.2.2.2,v2.2.2.2,(i64.wrap (1+v3.2.2.2)),v4.2.2.2,(i64.wrap (v4.2.2.2+v9.2.2.2)),v7.2.2.2,v5.2.2.2,v6.2.2.2,v8.2.2.2,v11.2.2.2,(i64.wrap (1+v12.2.2.2)),(⟨[],0⟩:aX),false⟩:aR)):Hl×Int×Int×aR)))))) (call (Z51.R (x0,v10.2.1,v10.2.2.1,2)) fun v16=>(cond v16.2.2.2 (call (Z4.R (x0,v16.2.1,v16.2.2.1)) fun v17=>(call (Z51.R (x0,v17.2.1,v17.2.2.1,3)) fun v18=>ret ((Hl.mk,v18.2.1,v18.2.2.1,(⟨v1.2.2.2,v2.2.2.2,(i64.wrap (1+v3.2.2.2)),v4.2.2.2,(i64.wrap (v4.2.2.2+v9.2.2.2)),v7.2.2.2,v5.2.2.2,v6.2.2.2,v8.2.2.2,(⟨[],0⟩:aX),0,v17.2.2.2,v18.2.2.2⟩:aR)):Hl×Int×Int×aR))) (ret ((Hl.mk,v16.2.1,v16.2.2.1,(⟨v1.2.2.2,v2.2.2.2,(i64.wrap (1+v3.2.2.2)),v4.2.2.2,(i64.wrap (v4.2.2.2+v9.2.2.2)),v7.2.2.2,v5.2.2.2,v6.2.2.2,v8.2.2.2,(⟨[],0⟩:aX),0,(⟨[],0⟩:aX),false⟩:aR)):Hl×Int×Int×aR)))))))))))))))
abbrev bQ:List K:=[.sl 5,aG,aG]
def pats:List (Option eS):=[none]
def res:RP:=.agg [.rd (.int .i64),.rd (.int .i64),.rd (.int .i64),.rd (.int .i64),.rd (.int .i64),.rd (.int .i64),.rd (.int .i64),.rd (.int .i64),.fr 3,.rd (.int .i64),.fr 3,.rd (.int .i64),.rd (.int .i64),.fr 3,.rd (.int .i64),.rd (.bool)]
abbrev E:Env:={ T:=assoc nH,G:=cQ [],nt:=46,M:=dV [],np:=(nC bQ),mt:=false,I:=fq [(52,Z3.ic (nC bQ)),(177,Z4.ic (nC bQ)),(76,Z51.ic (nC bQ))] }
def run_eq (n:Nat)(ls:List L):eg E (fun _=>[]) Tryz.f182 (.cur bQ res.parts) n (eN bQ pats ls)=F (eC ls) (bU 1 ls) (bU 2 ls):=by kernel_rfl
def gd (x0:ak)(x1 x2:Int):Prop:=CI x0 x1
def post (x0:ak)(x1 x2:Int)(y:Hl×Int×Int×aR):Prop:=CI x0 y.2.1/\∃m:aj,y.2.2.2=aj.r m/\aj.Sm 16 m
def wp (x0:ak)(x1 x2:Int)(hg:gd x0 x1 x2):Wp (F x0 x1 x2) (post x0 x1 x2):=by
 have hc:=hg
 unfold F
 refine Z3.bD hc (fun v1 ⟨c1,b1⟩=>?_)
 refine Z3.bD c1 (fun v2 ⟨c2,b2⟩=>?_)
 refine Z3.bD c2 (fun v3 ⟨c3,b3⟩=>?_)
 refine Z3.bD c3 (fun v4 ⟨c4,b4⟩=>?_)
 refine Z3.bD c4 (fun v5 ⟨c5,b5⟩=>?_)
 refine Z3.bD c5 (fun v6 ⟨c6,b6⟩=>?_)
 refine Z3.bD c6 (fun v7 ⟨c7,b7⟩=>?_)
 refine Z4.bD c7 (fun v8 ⟨c8,m8,e8,h8⟩=>?_)
 rw [e8]
 refine Z3.bD c8 (fun v9 ⟨c9,b9⟩=>?_)
 refine Z51.bD c9 (fun v10 c10=>?_)
 refine wp_cond (fun q0=>?_) (fun q0=>?_)
 ·skip
  refine Z4.bD c10 (fun v11 ⟨c11,m11,e11,h11⟩=>?_)
  rw [e11]
  refine Z3.bD c11 (fun v12 ⟨c12,b12⟩=>?_)
  refine Z51.bD c12 (fun v13 c13=>?_)
  refine wp_cond (fun q1=>?_) (fun q1=>?_)
  ·skip
   refine Z4.bD c13 (fun v14 ⟨c14,m14,e14,h14⟩=>?_)
   rw [e14]
   refine Z51.bD c14 (fun v15 c15=>?_)
   exact wp_ret ⟨c15,(⟨v1.2.2.2,v2.2.2.2,(i64.wrap (1+v3.2.2.2)),v4.2.2.2,(i64.wrap (v4.2.2.2+v9.2.2.2)),v7.2.2.2,v5.2.2.2,v6.2.2.2,m8,m11,(i64.wrap (1+v12.2.2.2)),m14,v15.2.2.2⟩:aj),rfl,(aj.aV (by decide) ⟨h8,h11,h14⟩)⟩
  ·skip
   exact wp_ret ⟨c13,(⟨v1.2.2.2,v2.2.2.2,(i64.wrap (1+v3.2.2.2)),v4.2.2.2,(i64.wrap (v4.2.2.2+v9.2.2.2)),v7.2.2.2,v5.2.2.2,v6.2.2.2,m8,m11,(i64.wrap (1+v12.2.2.2)),(⟨[],0⟩:aq),false⟩:aj),rfl,(aj.aV (by decide) ⟨h8,h11,cw.nil⟩)⟩
 ·skip
  refine Z51.bD c10 (fun v16 c16=>?_)
  refine wp_cond (fun q1=>?_) (fun q1=>?_)
  ·skip
   refine Z4.bD c16 (fun v17 ⟨c17,m17,e17,h17⟩=>?_)
   rw [e17]
   refine Z51.bD c17 (fun v18 c18=>?_)
   exact wp_ret ⟨c18,(⟨v1.2.2.2,v2.2.2.2,(i64.wrap (1+v3.2.2.2)),v4.2.2.2,(i64.wrap (v4.2.2.2+v9.2.2.2)),v7.2.2.2,v5.2.2.2,v6.2.2.2,m8,(⟨[],0⟩:aq),0,m17,v18.2.2.2⟩:aj),rfl,(aj.aV (by decide) ⟨h8,cw.nil,h17⟩)⟩
  ·skip
   exact wp_ret ⟨c16,(⟨v1.2.2.2,v2.2.2.2,(i64.wrap (1+v3.2.2.2)),v4.2.2.2,(i64.wrap (v4.2.2.2+v9.2.2.2)),v7.2.2.2,v5.2.2.2,v6.2.2.2,m8,(⟨[],0⟩:aq),0,(⟨[],0⟩:aq),false⟩:aj),rfl,(aj.aV (by decide) ⟨h8,cw.nil,cw.nil⟩)⟩
def R:(ak×Int×Int)->Option (Hl×Int×Int×aR):=RQ (fun _ x=>F x.1 x.2.1 x.2.2) (fun x=>post x.1 x.2.1 x.2.2)
def bD {x0:ak}{x1 x2:Int}{γ:Type}[RT γ]{k:(Hl×Int×Int×aR)->az}{Q:γ->Prop}(hg:gd x0 x1 x2)(hk:∀y,post x0 x1 x2 y->Wp (k y) Q):Wp (call (R (x0,x1,x2)) k) Q:=cK ⟨0,wp x0 x1 x2 hg⟩ hk
def acc (ls:List L):ak×Int×Int:=((eC ls),(bU 1 ls),(bU 2 ls))
def aN:gE:=CC bQ pats res acc R
def af:dU Tryz.prog Ev 182 aN:=VC (live:=(fun _=>[])) (mt:=false) mix aD .nil .nil (.cons (Z3.aU (nC bQ)) (.cons (Z4.aU (nC bQ)) (.cons (Z51.aU (nC bQ)) .nil))) Tryz.func182 (by kernel_rfl) run_eq
def ic (_:Nat):eR:=gO Ev aN
def aU (n:Nat):cP Tryz.prog Ev n 182 (ic n):=cF af
end Z72
namespace Z73
def F (x0:ak)(x1 x2:Int)(x3:ak):az:=(call (Z3.R (x0,x1,x2,(x3.length:Int))) fun v1=>(dZ ((0:Int)<=v1.2.2.2) (dZ (v1.2.2.2<(x3.length:Int)) (ret ((Hl.mk,v1.2.1,v1.2.2.1,(ld x3 (toNat v1.2.2.2))):Hl×Int×Int×Int)))))
abbrev bQ:List K:=[.sl 5,aG,aG]
def pats:List (Option eS):=[none,some (.rd (.sl 3))]
def res:RP:=.one (.rd (.int .i64))
abbrev E:Env:={ T:=assoc nH,G:=cQ [],nt:=12,M:=dV [],np:=(nC bQ),mt:=false,I:=fq [(52,Z3.ic (nC bQ))] }
def run_eq (n:Nat)(ls:List L):eg E (fun _=>[]) Tryz.f53 (.cur bQ res.parts) n (eN bQ pats ls)=F (eC ls) (bU 1 ls) (bU 2 ls) (gP 3 ls):=by kernel_rfl
def gd (x0:ak)(x1 x2:Int)(x3:ak):Prop:=CI x0 x1/\0<x3.length
def post (x0:ak)(x1 x2:Int)(x3:ak)(y:Hl×Int×Int×Int):Prop:=CI x0 y.2.1/\∃i,i<x3.length/\y.2.2.2=ld x3 i
def wp (x0:ak)(x1 x2:Int)(x3:ak)(hg:gd x0 x1 x2 x3):Wp (F x0 x1 x2 x3) (post x0 x1 x2 x3):=by
 unfold F
 refine Z3.bD hg.1 (fun v ⟨hv,_,h⟩=>?_)
 obtain ⟨h1,h2⟩:=h (by have:=hg.2;omega)
 exact cY (decide_eq_true h1) (cY (decide_eq_true h2) (wp_ret ⟨hv,_,by omega,rfl⟩))
def R:(ak×Int×Int×ak)->Option (Hl×Int×Int×Int):=RQ (fun _ x=>F x.1 x.2.1 x.2.2.1 x.2.2.2) (fun x=>post x.1 x.2.1 x.2.2.1 x.2.2.2)
def bD {x0:ak}{x1 x2:Int}{x3:ak}{γ:Type}[RT γ]{k:(Hl×Int×Int×Int)->az}{Q:γ->Prop}(hg:gd x0 x1 x2 x3)(hk:∀y,post x0 x1 x2 x3 y->Wp (k y) Q):Wp (call (R (x0,x1,x2,x3)) k) Q:=cK ⟨0,wp x0 x1 x2 x3 hg⟩ hk
def acc (ls:List L):ak×Int×Int×ak:=((eC ls),(bU 1 ls),(bU 2 ls),(gP 3 ls))
def aN:gE:=CC bQ pats res acc R
def af:dU Tryz.prog Ev 53 aN:=VC (live:=(fun _=>[])) (mt:=false) mix aD .nil .nil (.cons (Z3.aU (nC bQ)) .nil) Tryz.func53 (by kernel_rfl) run_eq
def ic (_:Nat):eR:=gO Ev aN
def aU (n:Nat):cP Tryz.prog Ev n 53 (ic n):=cF af
end Z73
namespace Z74
def F (x0:ak)(x1 x2:Int):az:=(call (Z4.R (x0,x1,x2)) fun v1=>(call (Z3.R (x0,v1.2.1,v1.2.2.1,10)) fun v2=>(cond (v2.2.2.2==0) (call (Z73.R (x0,v2.2.1,v2.2.2.1,[[L.int 0],[L.int (-1)],[L.int 5]])) fun v3=>ret ((Hl.mk,v3.2.1,v3.2.2.1,(⟨v1.2.2.2.aI,v3.2.2.2⟩:aX)):Hl×Int×Int×aX)) (cond (v2.2.2.2==1) (call (Z73.R (x0,v2.2.1,v2.2.2.1,[[L.int 1],[L.int 99],[L.int 100]])) fun v4=>(dZ (gy (((v1.2.2.2.aI.length:Int)+1)*8)) (ret ((Hl.mk,v4.2.1,v4.2.2.1,(⟨(v1.2.2.2.aI++[[L.int v4.2.2.2]]),v1.2.2.2.bS⟩:aX)):Hl×Int×Int×aX)))) (cond (v2.2.2.2==2) (ret ((Hl.mk,v2.2.1,v2.2.2.1,(⟨[],v1.2.2.2.bS⟩:aX)):Hl×Int×Int×aX)) (ret ((Hl.mk,v2.2.1,v2.2.2.1,v1.2.2.2):Hl×Int×Int×aX)))))))
abbrev bQ:List K:=[.sl 5,aG,aG]
def pats:List (Option eS):=[none]
def res:RP:=.agg [.fr 3,.rd (.int .i64)]
abbrev E:Env:={ T:=assoc nH,G:=cQ [],nt:=29,M:=dV [],np:=(nC bQ),mt:=false,I:=fq [(177,Z4.ic (nC bQ)),(52,Z3.ic (nC bQ)),(53,Z73.ic (nC bQ))] }
def run_eq (n:Nat)(ls:List L):eg E (fun _=>[]) Tryz.f183 (.cur bQ res.parts) n (eN bQ pats ls)=F (eC ls) (bU 1 ls) (bU 2 ls):=by kernel_rfl
def gd (x0:ak)(x1 x2:Int):Prop:=CI x0 x1
def post (x0:ak)(x1 x2:Int)(y:Hl×Int×Int×aX):Prop:=CI x0 y.2.1/\∃m:aq,y.2.2.2=aq.r m/\aq.Sm 16 m
def wp (x0:ak)(x1 x2:Int)(hg:gd x0 x1 x2):Wp (F x0 x1 x2) (post x0 x1 x2):=by
 have hc:=hg
 unfold F
 refine Z4.bD hc (fun v1 ⟨c1,m1,e1,h1⟩=>?_)
 rw [e1]
 refine Z3.bD c1 (fun v2 ⟨c2,b2⟩=>?_)
 refine wp_cond (fun q0=>?_) (fun q0=>?_)
 ·skip
  refine Z73.bD ⟨c2,by show 0<3;decide⟩ (fun v3 ⟨c3,b3⟩=>?_)
  exact wp_ret ⟨c3,(⟨m1.aI,v3.2.2.2⟩:aq),rfl,(aq.aV (by decide) h1)⟩
 ·skip
  refine wp_cond (fun q1=>?_) (fun q1=>?_)
  ·skip
   refine Z73.bD ⟨c2,by show 0<3;decide⟩ (fun v4 ⟨c4,b4⟩=>?_)
   refine cY (gK (by simp only [List.length_map,aq.r];have:=h1.1;omega)) ?_
   exact wp_ret ⟨c4,(⟨(m1.aI++[v4.2.2.2]),m1.bS⟩:aq),by simp [aQ,iB,aq.r],(aq.aV (by decide) (cw.CL (n:=9) h1 (by decide) trivial))⟩
  ·skip
   refine wp_cond (fun q2=>?_) (fun q2=>?_)
   ·skip
    exact wp_ret ⟨c2,(⟨[],m1.bS⟩:aq),rfl,cw.nil⟩
   ·skip
    exact wp_ret ⟨c2,m1,rfl,(aq.aV (by decide) h1)⟩
def R:(ak×Int×Int)->Option (Hl×Int×Int×aX):=RQ (fun _ x=>F x.1 x.2.1 x.2.2) (fun x=>post x.1 x.2.1 x.2.2)
def bD {x0:ak}{x1 x2:Int}{γ:Type}[RT γ]{k:(Hl×Int×Int×aX)->az}{Q:γ->Prop}(hg:gd x0 x1 x2)(hk:∀y,post x0 x1 x2 y->Wp (k y) Q):Wp (call (R (x0,x1,x2)) k) Q:=cK ⟨0,wp x0 x1 x2 hg⟩ hk
def acc (ls:List L):ak×Int×Int:=((eC ls),(bU 1 ls),(bU 2 ls))
def aN:gE:=CC bQ pats res acc R
def af:dU Tryz.prog Ev 183 aN:=VC (live:=(fun _=>[])) (mt:=false) mix aD .nil .nil (.cons (Z4.aU (nC bQ)) (.cons (Z3.aU (nC bQ)) (.cons (Z73.aU (nC bQ)) .nil))) Tryz.func183 (by kernel_rfl) run_eq
def ic (_:Nat):eR:=gO Ev aN
def aU (n:Nat):cP Tryz.prog Ev n 183 (ic n):=cF af
end Z74
namespace Z75
def F (x0:ak)(x1 x2:Int):az:=(call (Z72.R (x0,x1,x2)) fun v1=>(call (Z3.R (x0,v1.2.1,v1.2.2.1,14)) fun v2=>(cond (v2.2.2.2==0) (call (Z73.R (x0,v2.2.1,v2.2.2.1,[[L.int (-1)],[L.int 240],[L.int 241],[L.int 100000],[L.int 100001]])) fun v3=>ret ((Hl.mk,v3.2.1,v3.2.2.1,(⟨v1.2.2.2.bq,v1.2.2.2.aY,v1.2.2.2.aP,v1.2.2.2.aO,v3.2.2.2,v1.2.2.2.bk,v1.2.2.2.bE,v1.2.2.2.bW,v1.2.2.2.aE,v1.2.2.2.aM,v1.2.2.2.bu,v1.2.2.2.aK,v1.2.2.2.aH⟩:aR)):Hl×Int×Int×aR)) (cond (v2.2.2.2==1) (call (Z73.R (x0,v2.2.1,v2.2.2.1,[[L.int (-1)],[L.int 200],[L.int 201]])) fun v4=>ret ((Hl.mk,v4.2.1,v4.2.2.1,(⟨v1.2.2.2.bq,v4.2.2.2,v1.2.2.2.aP,v1.2.2.2.aO,v1.2.2.2.aZ,v1.2.2.2.bk,v1.2.2.2.bE,v1.2.2.2.bW,v1.2.2.2.aE,v1.2.2.2.aM,v1.2.2.2.bu,v1.2.2.2.aK,v1.2.2.2.aH⟩:aR)):Hl×Int×Int×aR)) (cond (v2.2.2.2==2) (call (Z73.R (x0,v2.2.1,v2.2.2.1,[[L.int 0],[L.int 1],[L.int 500],[L.int 501]])) fun v5=>ret ((Hl.mk,v5.2.1,v5.2.2.1,(⟨v1.2.2.2.bq,v1.2.2.2.aY,v1.2.2.2.aP,v1.2.2.2.aO,v1.2.2.2.aZ,v1.2.2.2.bk,v1.2.2.2.bE,v1.2.2.2.bW,v1.2.2.2.aE,v1.2.2.2.aM,v5.2.2.2,v1.2.2.2.aK,v1.2.2.2.aH⟩:aR)):Hl×Int×Int×aR)) (cond (v2.2.2.2==3) (call (Z74.R (x0,v2.2.1,v2.2.2.1)) fun v6=>ret ((Hl.mk,v6.2.1,v6.2.2.1,(⟨v1.2.2.2.bq,v1.2.2.2.aY,v1.2.2.2.aP,v1.2.2.2.aO,v1.2.2.2.aZ,v1.2.2.2.bk,v1.2.2.2.bE,v1.2.2.2.bW,v6.2.2.2,v1.2.2.2.aM,v1.2.2.2.bu,v1.2.2.2.aK,v1.2.2.2.aH⟩:aR)):Hl×Int×Int×aR)) (cond (v2.2.2.2==4) (call (Z73.R (x0,v2.2.1,v2.2.2.1,[[L.int 0],[L.int 4]])) fun v7=>ret ((Hl.mk,v7.2.1,v7.2.2.1,(⟨v1.2.2.2.bq,v1.2.2.2.aY,v7.2.2.2,v1.2.2.2.aO,v1.2.2.2.aZ,v1.2.2.2.bk,v1.2.2.2.bE,v1.2.2.2.bW,v1.2.2.2.aE,v1.2.2.2.aM,v1.2.2.2.bu,v1.2.2.2.aK,v1.2.2.2.aH⟩:aR)):Hl×Int×Int×aR)) (cond (v2.2.2.2==5) (ret ((Hl.mk,v2.2.1,v2.2.2.1,(⟨v1.2.2.2.bq,v1.2.2.2.aY,v1.2.2.2.aP,v1.2.2.2.aO,v1.2.2.2.aZ,v1.2.2.2.bk,v1.2.2.2.bE,v1.2.2.2.bW,v1.2.2.2.aE,v1.2.2.2.aM,v1.2.2.2.bu,v1.2.2.2.aK,true⟩:aR)):Hl×Int×Int×aR)) (cond (v2.2.2.2==6) (call (Z74.R (x0,v2.2.1,v2.2.2.1)) fun v8=>ret ((Hl.mk,v8.2.1,v8.2.2.1,(⟨v1.2.2.2.bq,v1.2.2.2.aY,v1.2.2.2.aP,v1.2.2.2.aO,v1.2.2.2.aZ,v1.2.2.2.bk,v1.2.2.2.bE,v1.2.2.2.bW,v1.2.2.2.aE,v1.2.2.2.aM,v1.2.2.2.bu,v8.2.2.2,v1.2.2.2.aH⟩:aR)):Hl×Int×Int×aR)) (ret ((Hl.mk,v2.2.1,v2.2.2.1,v1.2.2.2):Hl×Int×Int×aR)))))))))))
abbrev bQ:List K:=[.sl 5,aG,aG]
def pats:List (Option eS):=[none]
def res:RP:=.agg [.rd (.int .i64),.rd (.int .i64),.rd (.int .i64),.rd (.int .i64),.rd (.int .i64),.rd (.int .i64),.rd (.int .i64),.rd (.int .i64),.fr 3,.rd (.int .i64),.fr 3,.rd (.int .i64),.rd (.int .i64),.fr 3,.rd (.int .i64),.rd (.bool)]
abbrev E:Env:={ T:=assoc nH,G:=cQ [],nt:=46,M:=dV [],np:=(nC bQ),mt:=false,I:=fq [(182,Z72.ic (nC bQ)),(52,Z3.ic (nC bQ)),(53,Z73.ic (nC bQ)),(183,Z74.ic (nC bQ))] }
def run_eq (n:Nat)(ls:List L):eg E (fun _=>[]) Tryz.f141 (.cur bQ res.parts) n (eN bQ pats ls)=F (eC ls) (bU 1 ls) (bU 2 ls):=by kernel_rfl
def gd (x0:ak)(x1 x2:Int):Prop:=CI x0 x1
def post (x0:ak)(x1 x2:Int)(y:Hl×Int×Int×aR):Prop:=CI x0 y.2.1/\∃m:aj,y.2.2.2=aj.r m/\aj.Sm 16 m
def wp (x0:ak)(x1 x2:Int)(hg:gd x0 x1 x2):Wp (F x0 x1 x2) (post x0 x1 x2):=by
 have hc:=hg
 unfold F
 refine Z72.bD hc (fun v1 ⟨c1,m1,e1,h1⟩=>?_)
 rw [e1]
 refine Z3.bD c1 (fun v2 ⟨c2,b2⟩=>?_)
 refine wp_cond (fun q0=>?_) (fun q0=>?_)
 ·skip
  refine Z73.bD ⟨c2,by show 0<5;decide⟩ (fun v3 ⟨c3,b3⟩=>?_)
  exact wp_ret ⟨c3,(⟨m1.bq,m1.aY,m1.aP,m1.aO,v3.2.2.2,m1.bk,m1.bE,m1.bW,m1.aE,m1.aM,m1.bu,m1.aK,m1.aH⟩:aj),rfl,⟨h1.1,h1.2.1,h1.2.2⟩⟩
 ·skip
  refine wp_cond (fun q1=>?_) (fun q1=>?_)
  ·skip
   refine Z73.bD ⟨c2,by show 0<3;decide⟩ (fun v4 ⟨c4,b4⟩=>?_)
   exact wp_ret ⟨c4,(⟨m1.bq,v4.2.2.2,m1.aP,m1.aO,m1.aZ,m1.bk,m1.bE,m1.bW,m1.aE,m1.aM,m1.bu,m1.aK,m1.aH⟩:aj),rfl,⟨h1.1,h1.2.1,h1.2.2⟩⟩
  ·skip
   refine wp_cond (fun q2=>?_) (fun q2=>?_)
   ·skip
    refine Z73.bD ⟨c2,by show 0<4;decide⟩ (fun v5 ⟨c5,b5⟩=>?_)
    exact wp_ret ⟨c5,(⟨m1.bq,m1.aY,m1.aP,m1.aO,m1.aZ,m1.bk,m1.bE,m1.bW,m1.aE,m1.aM,v5.2.2.2,m1.aK,m1.aH⟩:aj),rfl,⟨h1.1,h1.2.1,h1.2.2⟩⟩
   ·skip
    refine wp_cond (fun q3=>?_) (fun q3=>?_)
    ·skip
     refine Z74.bD c2 (fun v6 ⟨c6,m6,e6,h6⟩=>?_)
     rw [e6]
     exact wp_ret ⟨c6,(⟨m1.bq,m1.aY,m1.aP,m1.aO,m1.aZ,m1.bk,m1.bE,m1.bW,m6,m1.aM,m1.bu,m1.aK,m1.aH⟩:aj),rfl,⟨h6,h1.2.1,h1.2.2⟩⟩
    ·skip
     refine wp_cond (fun q4=>?_) (fun q4=>?_)
     ·skip
      refine Z73.bD ⟨c2,by show 0<2;decide⟩ (fun v7 ⟨c7,b7⟩=>?_)
      exact wp_ret ⟨c7,(⟨m1.bq,m1.aY,v7.2.2.2,m1.aO,m1.aZ,m1.bk,m1.bE,m1.bW,m1.aE,m1.aM,m1.bu,m1.aK,m1.aH⟩:aj),rfl,⟨h1.1,h1.2.1,h1.2.2⟩⟩
     ·skip
      refine wp_cond (fun q5=>?_) (fun q5=>?_)
      ·skip
       exact wp_ret ⟨c2,(⟨m1.bq,m1.aY,m1.aP,m1.aO,m1.aZ,m1.bk,m1.bE,m1.bW,m1.aE,m1.aM,m1.bu,m1.aK,true⟩:aj),rfl,⟨h1.1,h1.2.1,h1.2.2⟩⟩
      ·skip
       refine wp_cond (fun q6=>?_) (fun q6=>?_)
       ·skip
        refine Z74.bD c2 (fun v8 ⟨c8,m8,e8,h8⟩=>?_)
        rw [e8]
        exact wp_ret ⟨c8,(⟨m1.bq,m1.aY,m1.aP,m1.aO,m1.aZ,m1.bk,m1.bE,m1.bW,m1.aE,m1.aM,m1.bu,m8,m1.aH⟩:aj),rfl,⟨h1.1,h1.2.1,h8⟩⟩
       ·skip
        exact wp_ret ⟨c2,m1,rfl,h1⟩
def R:(ak×Int×Int)->Option (Hl×Int×Int×aR):=RQ (fun _ x=>F x.1 x.2.1 x.2.2) (fun x=>post x.1 x.2.1 x.2.2)
def bD {x0:ak}{x1 x2:Int}{γ:Type}[RT γ]{k:(Hl×Int×Int×aR)->az}{Q:γ->Prop}(hg:gd x0 x1 x2)(hk:∀y,post x0 x1 x2 y->Wp (k y) Q):Wp (call (R (x0,x1,x2)) k) Q:=cK ⟨0,wp x0 x1 x2 hg⟩ hk
def acc (ls:List L):ak×Int×Int:=((eC ls),(bU 1 ls),(bU 2 ls))
def aN:gE:=CC bQ pats res acc R
def af:dU Tryz.prog Ev 141 aN:=VC (live:=(fun _=>[])) (mt:=false) mix aD .nil .nil (.cons (Z72.aU (nC bQ)) (.cons (Z3.aU (nC bQ)) (.cons (Z73.aU (nC bQ)) (.cons (Z74.aU (nC bQ)) .nil)))) Tryz.func141 (by kernel_rfl) run_eq
def ic (_:Nat):eR:=gO Ev aN
def aU (n:Nat):cP Tryz.prog Ev n 141 (ic n):=cF af
end Z75
namespace Z76
inductive Pt where
 | p0 (a b c:Int) (d e:ak)
def pid:Pt->Nat
 | .p0 ..=>3
def dM:Pt->List V
 | .p0 a b c d e=>[.bB 0 0,.own 2,.int .i64 a]
def fk:Pt->List aA
 | .p0 a b c d e=>[.box [.own 1,.int .i64 b,.int .i64 c],.vw 5 d,.row 3 e]
def step (J:Pt->az):Pt->az
 | .p0 a b c d e=>(cond (a>0) (call (Z3.R (d,b,c,9)) fun v1=>(dZ (gy (((e.length:Int)+1)*8)) (J (.p0 (i64.wrap (a - 1)) v1.2.1 v1.2.2.1 d (e++[[L.int (i64.wrap (1+v1.2.2.2))]]))))) (ret ((Hl.mk,b,c,e):Hl×Int×Int×ak)))
def start (J:Pt->az)(x0:ak)(x1 x2:Int):az:=(call (Z3.R (x0,x1,x2,6)) fun v1=>J (.p0 v1.2.2.2 v1.2.1 v1.2.2.1 x0 []))
def live:Nat->Live:=kA [(3,[(0,none),(3,some 3),(4,none)])]
abbrev bQ:List K:=[.sl 5,aG,aG]
def pats:List (Option eS):=[none]
def res:RP:=.one (.fr 3)
abbrev E:Env:={ T:=assoc nH,G:=cQ [],nt:=19,M:=dV [],np:=(nC bQ),mt:=false,I:=fq [(52,Z3.ic (nC bQ))] }
def step_eq (I:dL)(p:Pt):dA E live I (pid p) (bN Tryz.f185) (kO (live (pid p)) (dM p) (fk p)) (dI E Tryz.f185 (.cur bQ res.parts))=step (fun q=>I (pid q) (dM q) (fk q)) p:=by
 cases p<;>kernel_rfl
def start_eq (I:dL)(ls:List L):gU E live I (bN Tryz.f185) (eN bQ pats ls) (dI E Tryz.f185 (.cur bQ res.parts))=start (fun q=>I (pid q) (dM q) (fk q)) (eC ls) (bU 1 ls) (bU 2 ls):=by kernel_rfl
def run_eq (n:Nat)(ls:List L):eg E live Tryz.f185 (.cur bQ res.parts) n (eN bQ pats ls)=start (iter step n) (eC ls) (bU 1 ls) (bU 2 ls):=eo (id:=pid) (vs:=dM) (hs:=fk) (step:=step) (start:=fun J=>start J (eC ls) (bU 1 ls) (bU 2 ls)) step_eq (fun I=>start_eq I ls) n
def gd (x0:ak)(x1 x2:Int):Prop:=CI x0 x1
def post (x0:ak)(x1 x2:Int)(y:Hl×Int×Int×ak):Prop:=CI x0 y.2.1/\∃m:List Int,y.2.2.2=m.map aQ/\cw 8 (fun y:Int=>True) m
def wp (x0:ak)(x1 x2:Int)(hg:gd x0 x1 x2):∃n,Wp (start (iter step n) x0 x1 x2) (post x0 x1 x2):=by
 have key:∀a d e,0<=a->a<=6->CI x0 d->∃n,Wp (iter step n (.p0 a d e x0 [])) (post x0 x1 x2):=by
  intro a d e h1 h2 h3
  refine ⟨8,iR (fun p=>match p with | .p0 a b c d e=>0<=a/\a<=6/\CI d b/\d=x0/\∃ms:List Int,e=ms.map aQ/\(ms.length:Int)+a<=6) (fun p=>match p with | .p0 a b c d e=>a.toNat) (fun J p hI hJ=>?_) _ _ ⟨h1,h2,h3,rfl,[],rfl,by show (0:Int)+a<=6;omega⟩ (by show a.toNat<8;omega)⟩
  obtain ⟨a,b,c,d,e⟩:=p
  obtain ⟨k1,k2,k3,rfl,ms,rfl,h6⟩:=hI
  refine wp_cond (fun c1=>?_) (fun c1=>?_)
  ·have c1:=of_decide_eq_true c1
   have e1:i64.wrap (a - 1)=a - 1:=wi _ (by omega)
   refine Z3.bD k3 (fun v ⟨hv,_,_⟩=>cY (gK (by rw [List.length_map];omega)) (hJ _ ⟨?_,?_,hv,rfl,ms++[(i64.wrap (1+v.2.2.2))],by simp [aQ],?_⟩ ?_))
   ·show 0<=i64.wrap (a - 1);omega
   ·show i64.wrap (a - 1)<=6;omega
   ·show ((ms++[_]).length:Int)+i64.wrap (a - 1)<=6;rw [e1];simp;omega
   ·show (i64.wrap (a - 1)).toNat<a.toNat;omega
  ·exact wp_ret ⟨k3,ms,rfl,(show ms.length<=8 by omega),fun _ _=>trivial⟩
 obtain ⟨v,hv,pv⟩:=Z3.iN (x3:=6) hg
 obtain ⟨h1,h2⟩:=pv.2.2 (by decide)
 obtain ⟨n,hn⟩:=key v.2.2.2 v.2.1 v.2.2.1 h1 (by omega) pv.1
 exact ⟨n,bg hv hn⟩
def R:(ak×Int×Int)->Option (Hl×Int×Int×ak):=RQ (fun n x=>start (iter step n) x.1 x.2.1 x.2.2) (fun x=>post x.1 x.2.1 x.2.2)
def bD {x0:ak}{x1 x2:Int}{γ:Type}[RT γ]{k:(Hl×Int×Int×ak)->az}{Q:γ->Prop}(hg:gd x0 x1 x2)(hk:∀y,post x0 x1 x2 y->Wp (k y) Q):Wp (call (R (x0,x1,x2)) k) Q:=cK (wp x0 x1 x2 hg) hk
def acc (ls:List L):ak×Int×Int:=((eC ls),(bU 1 ls),(bU 2 ls))
def aN:gE:=CC bQ pats res acc R
def af:dU Tryz.prog Ev 185 aN:=VC (live:=live) (mt:=false) mix aD .nil .nil (.cons (Z3.aU (nC bQ)) .nil) Tryz.func185 (by kernel_rfl) run_eq
def ic (_:Nat):eR:=gO Ev aN
def aU (n:Nat):cP Tryz.prog Ev n 185 (ic n):=cF af
end Z76
namespace Z77
def F (x0:ak)(x1 x2:Int)(x3:aX)(x4:ak):az:=(call (Z76.R (x0,x1,x2)) fun v1=>(call (Z47.R (v1.2.2.2,x3,x4)) fun v2=>(call (Z3.R (x0,v1.2.1,v1.2.2.1,6)) fun v3=>(cond (v3.2.2.2==0) (call (Z73.R (x0,v3.2.1,v3.2.2.1,[[L.int 0],[L.int 1],[L.int 2],[L.int 100]])) fun v4=>(call (Z3.R (x0,v4.2.1,v4.2.2.1,9)) fun v5=>(dZ (gy (((v2.length:Int)+1)*16)) (ret ((Hl.mk,v5.2.1,v5.2.2.1,(v2++[(bf.enc (⟨v4.2.2.2,v5.2.2.2⟩:bf))])):Hl×Int×Int×ak))))) (cond (v3.2.2.2==1) (dZ (gy (((v2.length:Int)+(v2.length:Int))*16)) (ret ((Hl.mk,v3.2.1,v3.2.2.1,(v2++v2)):Hl×Int×Int×ak))) (cond (v3.2.2.2==2) (cond ((v2.length:Int)>0) (dZ ((0:Int)<(v2.length:Int)) (dZ ((0:Int)<(v2.length:Int)) (ret ((Hl.mk,v3.2.1,v3.2.2.1,(List.set v2 0 (bf.enc (⟨(bf.at v2 0).mI,(i64.wrap ((bf.at v2 0).wW+1))⟩:bf)))):Hl×Int×Int×ak)))) (ret ((Hl.mk,v3.2.1,v3.2.2.1,v2):Hl×Int×Int×ak))) (ret ((Hl.mk,v3.2.1,v3.2.2.1,v2):Hl×Int×Int×ak))))))))
abbrev bQ:List K:=[.sl 5,aG,aG]
def pats:List (Option eS):=[none,some (.agg [.sl 3,aG]),some (.rd (.sl 3))]
def res:RP:=.one (.fr 209)
abbrev E:Env:={ T:=assoc nH,G:=cQ [(184,Z47.aN)],nt:=45,M:=dV [],np:=(nC bQ),mt:=false,I:=fq [(185,Z76.ic (nC bQ)),(52,Z3.ic (nC bQ)),(53,Z73.ic (nC bQ))] }
def run_eq (n:Nat)(ls:List L):eg E (fun _=>[]) Tryz.f142 (.cur bQ res.parts) n (eN bQ pats ls)=F (eC ls) (bU 1 ls) (bU 2 ls) (aX.dec (bt 3 ls)) (gP 5 ls):=by kernel_rfl
def gd (x0:ak)(x1 x2:Int)(x3:aX)(x4:ak):Prop:=CI x0 x1/\∃m:aq,x3=aq.r m/\aq.Sm 16 m/\∃q:List Int,x4=q.map aQ/\cw (2^38) (fun y:Int=>True) q
def post (x0:ak)(x1 x2:Int)(x3:aX)(x4:ak)(y:Hl×Int×Int×ak):Prop:=CI x0 y.2.1/\∃m:List bf,y.2.2.2=m.map bf.row/\cw 64 (fun y:bf=>True) m
def wp (x0:ak)(x1 x2:Int)(x3:aX)(x4:ak)(hg:gd x0 x1 x2 x3 x4):Wp (F x0 x1 x2 x3 x4) (post x0 x1 x2 x3 x4):=by
 obtain ⟨hc,n3,rfl,g3,n4,rfl,g4⟩:=hg
 unfold F
 refine Z76.bD hc (fun v1 ⟨c1,m1,e1,h1⟩=>?_)
 rw [e1]
 refine bg (Z47.au (a0:=m1) (a1:=n3) (a2:=n4) ⟨cw.mono h1 (by decide) (fun _ h=>h),aq.aV (by decide) g3,g4⟩) ?_
 obtain ⟨ms,hms⟩:∃ms,ms=Z47.md m1 n3 n4:=⟨_,rfl⟩
 have hl:ms.length<=16:=by rw [hms];exact le_trans (Z47.Bg _ _ _) g3.1
 rw [<-hms]
 clear hms
 refine Z3.bD c1 (fun v3 ⟨c3,_⟩=>?_)
 refine wp_cond (fun _=>?_) (fun _=>wp_cond (fun _=>?_) (fun _=>wp_cond (fun _=>wp_cond (fun q=>?_) (fun _=>?_)) (fun _=>?_)))
 ·refine Z73.bD ⟨c3,by show 0<4;decide⟩ (fun v4 ⟨c4,_⟩=>Z3.bD c4 (fun v5 ⟨c5,_⟩=>?_))
  refine cY (gK (by rw [List.length_map];omega)) (wp_ret ⟨c5,ms++[⟨v4.2.2.2,v5.2.2.2⟩],by simp [bf.row],?_⟩)
  exact ⟨by simp;omega,fun _ _=>trivial⟩
 ·exact cY (gK (by rw [List.length_map];omega)) (wp_ret ⟨c3,ms++ms,by simp,by simp;omega,fun _ _=>trivial⟩)
 ·cases ms with
  | nil=>simp at q
  | cons x xs=>exact cY q (cY q (wp_ret ⟨c3,⟨x.mI,i64.wrap (x.wW+1)⟩::xs,rfl,by simp at hl ⊢;omega,fun _ _=>trivial⟩))
 ·exact wp_ret ⟨c3,ms,rfl,by omega,fun _ _=>trivial⟩
 ·exact wp_ret ⟨c3,ms,rfl,by omega,fun _ _=>trivial⟩
def R:(ak×Int×Int×aX×ak)->Option (Hl×Int×Int×ak):=RQ (fun _ x=>F x.1 x.2.1 x.2.2.1 x.2.2.2.1 x.2.2.2.2) (fun x=>post x.1 x.2.1 x.2.2.1 x.2.2.2.1 x.2.2.2.2)
def bD {x0:ak}{x1 x2:Int}{x3:aX}{x4:ak}{γ:Type}[RT γ]{k:(Hl×Int×Int×ak)->az}{Q:γ->Prop}(hg:gd x0 x1 x2 x3 x4)(hk:∀y,post x0 x1 x2 x3 x4 y->Wp (k y) Q):Wp (call (R (x0,x1,x2,x3,x4)) k) Q:=cK ⟨0,wp x0 x1 x2 x3 x4 hg⟩ hk
def acc (ls:List L):ak×Int×Int×aX×ak:=((eC ls),(bU 1 ls),(bU 2 ls),(aX.dec (bt 3 ls)),(gP 5 ls))
def aN:gE:=CC bQ pats res acc R
def af:dU Tryz.prog Ev 142 aN:=VC (live:=(fun _=>[])) (mt:=false) mix aD (dR Z47.af) .nil (.cons (Z76.aU (nC bQ)) (.cons (Z3.aU (nC bQ)) (.cons (Z73.aU (nC bQ)) .nil))) Tryz.func142 (by kernel_rfl) run_eq
def ic (_:Nat):eR:=gO Ev aN
def aU (n:Nat):cP Tryz.prog Ev n 142 (ic n):=cF af
end Z77
namespace Z78
def F (x0:ak)(x1 x2:Int):az:=(call (Z49.R (x0,x1,x2)) fun v1=>(call (Z3.R (x0,v1.2.1,v1.2.2.1,8)) fun v2=>(cond (v2.2.2.2==0) (call (Z75.R (x0,v2.2.1,v2.2.2.1)) fun v3=>ret ((Hl.mk,v3.2.1,v3.2.2.1,(⟨v3.2.2.2,v1.2.2.2.eB⟩:aB)):Hl×Int×Int×aB)) (cond (v2.2.2.2==1) (call (Z43.R v1.2.2.2.an) fun v4=>(call (Z77.R (x0,v2.2.1,v2.2.2.1,v1.2.2.2.an.aE,v4)) fun v5=>ret ((Hl.mk,v5.2.1,v5.2.2.1,(⟨v1.2.2.2.an,v5.2.2.2⟩:aB)):Hl×Int×Int×aB))) (cond (v2.2.2.2==2) (call (Z48.R (v1.2.2.2.an.aE.aI,v1.2.2.2.an.aE,(⟨v1.2.2.2.an.bq,v1.2.2.2.an.aY,v1.2.2.2.an.aP,v1.2.2.2.an.aO,v1.2.2.2.an.aZ,v1.2.2.2.an.bk,v1.2.2.2.an.bE,(i64.wrap (v1.2.2.2.an.bW+1)),v1.2.2.2.an.aE,v1.2.2.2.an.aM,v1.2.2.2.an.bu,v1.2.2.2.an.aK,v1.2.2.2.an.aH⟩:aR))) fun v6=>ret ((Hl.mk,v2.2.1,v2.2.2.1,v6):Hl×Int×Int×aB)) (ret ((Hl.mk,v2.2.1,v2.2.2.1,v1.2.2.2):Hl×Int×Int×aB)))))))
abbrev bQ:List K:=[.sl 5,aG,aG]
def pats:List (Option eS):=[none]
def res:RP:=.agg [.rd (.int .i64),.rd (.int .i64),.rd (.int .i64),.rd (.int .i64),.rd (.int .i64),.rd (.int .i64),.rd (.int .i64),.rd (.int .i64),.fr 3,.rd (.int .i64),.fr 3,.rd (.int .i64),.rd (.int .i64),.fr 3,.rd (.int .i64),.rd (.bool),.fr 209]
abbrev E:Env:={ T:=assoc nH,G:=cQ [(136,Z43.aN),(143,Z48.aN)],nt:=43,M:=dV [],np:=(nC bQ),mt:=false,I:=fq [(138,Z49.ic (nC bQ)),(52,Z3.ic (nC bQ)),(141,Z75.ic (nC bQ)),(142,Z77.ic (nC bQ))] }
def run_eq (n:Nat)(ls:List L):eg E (fun _=>[]) Tryz.f98 (.cur bQ res.parts) n (eN bQ pats ls)=F (eC ls) (bU 1 ls) (bU 2 ls):=by kernel_rfl
def gd (x0:ak)(x1 x2:Int):Prop:=CI x0 x1
def post (x0:ak)(x1 x2:Int)(y:Hl×Int×Int×aB):Prop:=CI x0 y.2.1/\∃m:aa,y.2.2.2=aa.r m/\aa.Sm 64 m
def wp (x0:ak)(x1 x2:Int)(hg:gd x0 x1 x2):Wp (F x0 x1 x2) (post x0 x1 x2):=by
 have hc:=hg
 unfold F
 refine Z49.bD hc (fun v1 ⟨c1,m1,e1,h1⟩=>?_)
 rw [e1]
 refine Z3.bD c1 (fun v2 ⟨c2,b2⟩=>?_)
 refine wp_cond (fun q0=>?_) (fun q0=>?_)
 ·skip
  refine Z75.bD c2 (fun v3 ⟨c3,m3,e3,h3⟩=>?_)
  rw [e3]
  exact wp_ret ⟨c3,(⟨m3,m1.eB⟩:aa),rfl,(aa.aV (by decide) ⟨h3,h1.2⟩)⟩
 ·skip
  refine wp_cond (fun q1=>?_) (fun q1=>?_)
  ·skip
   refine bg (Z43.au (a0:=m1.an) (aj.aV (by decide) h1.1)) ?_
   refine Z77.bD ⟨c2,m1.an.aE,rfl,h1.1.1,(Z43.md m1.an),rfl,(by rw [Z43.len];have h2:=h1.1.1.1;have h3:=h1.1.2.1.1;have h4:=h1.1.2.2.1;omega),fun _ _=>trivial⟩ (fun v5 ⟨c5,m5,e5,h5⟩=>?_)
   rw [e5]
   exact wp_ret ⟨c5,(⟨m1.an,m5⟩:aa),rfl,⟨(aj.aV (by decide) h1.1),h5⟩⟩
  ·skip
   refine wp_cond (fun q2=>?_) (fun q2=>?_)
   ·skip
    refine bg (Z48.au (a0:=m1.an.aE.aI) (a1:=m1.an.aE) (a2:=(⟨m1.an.bq,m1.an.aY,m1.an.aP,m1.an.aO,m1.an.aZ,m1.an.bk,m1.an.bE,(i64.wrap (m1.an.bW+1)),m1.an.aE,m1.an.aM,m1.an.bu,m1.an.aK,m1.an.aH⟩:aj)) ⟨(cw.mono h1.1.1 (by decide) (fun _ h=>h)),(aq.aV (by decide) h1.1.1),(aj.aV (by decide) ⟨h1.1.1,h1.1.2.1,h1.1.2.2⟩)⟩) ?_
    exact wp_ret ⟨c2,_,rfl,(aa.aV (by decide) (Z48.sk h1.1.1 ⟨h1.1.1,h1.1.2.1,h1.1.2.2⟩))⟩
   ·skip
    exact wp_ret ⟨c2,m1,rfl,(aa.aV (by decide) h1)⟩
def R:(ak×Int×Int)->Option (Hl×Int×Int×aB):=RQ (fun _ x=>F x.1 x.2.1 x.2.2) (fun x=>post x.1 x.2.1 x.2.2)
def bD {x0:ak}{x1 x2:Int}{γ:Type}[RT γ]{k:(Hl×Int×Int×aB)->az}{Q:γ->Prop}(hg:gd x0 x1 x2)(hk:∀y,post x0 x1 x2 y->Wp (k y) Q):Wp (call (R (x0,x1,x2)) k) Q:=cK ⟨0,wp x0 x1 x2 hg⟩ hk
def acc (ls:List L):ak×Int×Int:=((eC ls),(bU 1 ls),(bU 2 ls))
def aN:gE:=CC bQ pats res acc R
def af:dU Tryz.prog Ev 98 aN:=VC (live:=(fun _=>[])) (mt:=false) mix aD (gD Z43.af Z48.af) .nil (.cons (Z49.aU (nC bQ)) (.cons (Z3.aU (nC bQ)) (.cons (Z75.aU (nC bQ)) (.cons (Z77.aU (nC bQ)) .nil)))) Tryz.func98 (by kernel_rfl) run_eq
def ic (_:Nat):eR:=gO Ev aN
def aU (n:Nat):cP Tryz.prog Ev n 98 (ic n):=cF af
end Z78
namespace Z79
def F (x0:ak)(x1 x2:Int):az:=(call (Z71.R (x0,x1,x2)) fun v1=>(call (Z3.R (x0,v1.2.1,v1.2.2.1,10)) fun v2=>(cond (v2.2.2.2==0) (dZ ((0:Int)<=(i64.wrap ((v1.2.2.2.length:Int) - 1))) (dZ ((i64.wrap ((v1.2.2.2.length:Int) - 1))<=(v1.2.2.2.length:Int)) (ret ((Hl.mk,v2.2.1,v2.2.2.1,(List.take (toNat ((i64.wrap ((v1.2.2.2.length:Int) - 1)) - 0)) (List.drop 0 v1.2.2.2))):Hl×Int×Int×ak)))) (cond (v2.2.2.2==1) (call (Z78.R (x0,v2.2.1,v2.2.2.1)) fun v3=>(dZ (gy (((v1.2.2.2.length:Int)+1)*200)) (ret ((Hl.mk,v3.2.1,v3.2.2.1,(v1.2.2.2++[(aB.enc v3.2.2.2)])):Hl×Int×Int×ak)))) (cond (v2.2.2.2==2) (dZ ((0:Int)<(v1.2.2.2.length:Int)) (dZ ((0:Int)<(v1.2.2.2.length:Int)) (ret ((Hl.mk,v2.2.1,v2.2.2.1,(List.set v1.2.2.2 0 (aB.enc (⟨(⟨(aB.at v1.2.2.2 0).an.bq,(aB.at v1.2.2.2 0).an.aY,(aB.at v1.2.2.2 0).an.aP,(aB.at v1.2.2.2 0).an.aO,(aB.at v1.2.2.2 0).an.aZ,(aB.at v1.2.2.2 0).an.bk,(i64.wrap ((aB.at v1.2.2.2 0).an.bE+1)),(aB.at v1.2.2.2 0).an.bW,(aB.at v1.2.2.2 0).an.aE,(aB.at v1.2.2.2 0).an.aM,(aB.at v1.2.2.2 0).an.bu,(aB.at v1.2.2.2 0).an.aK,(aB.at v1.2.2.2 0).an.aH⟩:aR),(aB.at v1.2.2.2 0).eB⟩:aB)))):Hl×Int×Int×ak)))) (cond (v2.2.2.2==3) (dZ ((1:Int)<=(v1.2.2.2.length:Int)) (dZ ((v1.2.2.2.length:Int)<=(v1.2.2.2.length:Int)) (ret ((Hl.mk,v2.2.1,v2.2.2.1,(List.take (toNat ((v1.2.2.2.length:Int) - 1)) (List.drop 1 v1.2.2.2))):Hl×Int×Int×ak)))) (ret ((Hl.mk,v2.2.1,v2.2.2.1,v1.2.2.2):Hl×Int×Int×ak))))))))
abbrev bQ:List K:=[.sl 5,aG,aG]
def pats:List (Option eS):=[none]
def res:RP:=.one (.rd (.sl 78))
abbrev E:Env:={ T:=assoc nH,G:=cQ [],nt:=39,M:=dV [],np:=(nC bQ),mt:=false,I:=fq [(97,Z71.ic (nC bQ)),(52,Z3.ic (nC bQ)),(98,Z78.ic (nC bQ))] }
def run_eq (n:Nat)(ls:List L):eg E (fun _=>[]) Tryz.f51 (.cur bQ res.parts) n (eN bQ pats ls)=F (eC ls) (bU 1 ls) (bU 2 ls):=by kernel_rfl
def gd (x0:ak)(x1 x2:Int):Prop:=CI x0 x1
def post (x0:ak)(x1 x2:Int)(y:Hl×Int×Int×ak):Prop:=CI x0 y.2.1/\∃m:List aa,y.2.2.2=m.map aa.row/\cw 16 (fun y:aa=>aa.Sm 64 y) m
def wp (x0:ak)(x1 x2:Int)(hg:gd x0 x1 x2):Wp (F x0 x1 x2) (post x0 x1 x2):=by
 unfold F
 refine Z71.bD hg (fun v1 ⟨c1,ms,e1,h1,hp⟩=>Z3.bD c1 (fun v2 ⟨c2,_⟩=>?_))
 rw [e1]
 have hl:=h1.1
 have hw:i64.wrap (((ms.map aa.row).length:Int) - 1)=(ms.length:Int) - 1:=by rw [List.length_map];exact wi _ (by omega)
 refine wp_cond (fun _=>?_) (fun _=>wp_cond (fun _=>?_) (fun _=>wp_cond (fun _=>?_) (fun _=>wp_cond (fun _=>?_) (fun _=>?_))))
 ·rw [hw]
  refine cY (decide_eq_true (by omega)) (cY (decide_eq_true (by rw [List.length_map];omega)) (wp_ret ⟨c2,(ms.drop 0).take (((ms.length:Int) - 1) - 0).toNat,by simp [List.map_take],?_,?_⟩))
  ·simp;omega
  ·intro s hs;exact h1.2 s (List.mem_of_mem_drop (List.mem_of_mem_take hs))
 ·refine Z78.bD c2 (fun v3 ⟨c3,m3,e3,h3⟩=>?_)
  rw [e3]
  refine cY (gK (by rw [List.length_map];omega)) (wp_ret ⟨c3,ms++[m3],by simp [aa.row],?_⟩)
  exact cw.CL (cw.mono h1 (by decide:12<=15) fun _ h=>h) (by decide) h3
 ·cases ms with
  | nil=>simp at hp
  | cons x xs=>
   have q:(decide ((0:Int)<(((x::xs).map aa.row).length:Int)))=true:=decide_eq_true (by rw [List.length_map];simp at hp ⊢;try omega)
   have hx:=h1.2 x (by simp)
   refine cY q (cY q (wp_ret ⟨c2,⟨⟨x.an.bq,x.an.aY,x.an.aP,x.an.aO,x.an.aZ,x.an.bk,i64.wrap (x.an.bE+1),x.an.bW,x.an.aE,x.an.aM,x.an.bu,x.an.aK,x.an.aH⟩,x.eB⟩::xs,rfl,?_,?_⟩))
   ·simp at hl ⊢;omega
   ·intro s hs
    rcases List.mem_cons.1 hs with rfl | hs
    ·exact hx
    ·exact h1.2 s (List.mem_cons_of_mem _ hs)
 ·refine cY (decide_eq_true (by rw [List.length_map];omega)) (cY (decide_eq_true (Int.le_refl _)) (wp_ret ⟨c2,(ms.drop 1).take (((ms.map aa.row).length:Int) - 1).toNat,by simp [List.map_take,List.map_drop],?_,?_⟩))
  ·simp;omega
  ·intro s hs;exact h1.2 s (List.mem_of_mem_drop (List.mem_of_mem_take hs))
 ·exact wp_ret ⟨c2,ms,rfl,by omega,h1.2⟩
def R:(ak×Int×Int)->Option (Hl×Int×Int×ak):=RQ (fun _ x=>F x.1 x.2.1 x.2.2) (fun x=>post x.1 x.2.1 x.2.2)
def bD {x0:ak}{x1 x2:Int}{γ:Type}[RT γ]{k:(Hl×Int×Int×ak)->az}{Q:γ->Prop}(hg:gd x0 x1 x2)(hk:∀y,post x0 x1 x2 y->Wp (k y) Q):Wp (call (R (x0,x1,x2)) k) Q:=cK ⟨0,wp x0 x1 x2 hg⟩ hk
def acc (ls:List L):ak×Int×Int:=((eC ls),(bU 1 ls),(bU 2 ls))
def aN:gE:=CC bQ pats res acc R
def af:dU Tryz.prog Ev 51 aN:=VC (live:=(fun _=>[])) (mt:=false) mix aD .nil .nil (.cons (Z71.aU (nC bQ)) (.cons (Z3.aU (nC bQ)) (.cons (Z78.aU (nC bQ)) .nil))) Tryz.func51 (by kernel_rfl) run_eq
def ic (_:Nat):eR:=gO Ev aN
def aU (n:Nat):cP Tryz.prog Ev n 51 (ic n):=cF af
end Z79
namespace Z80
def F (x0:ak):az:=(call (Z1.R x0) fun v1=>(call (Z79.R (v1.1,v1.2.1,v1.2.2)) fun v2=>(call (Z3.R (v1.1,v2.2.1,v2.2.2.1,120)) fun v3=>ret ((v2.2.2.2,v3.2.2.2):ak×Int))))
def pats:List eS:=[.rd (.sl 5)]
def res:RP:=.gL [(false,[.rd (.sl 78)]),(false,[.rd (.int .i64)])]
abbrev E:Env:={ T:=assoc nH,G:=cQ [],nt:=13,M:=dV [],np:=0,mt:=false,I:=fq [(50,Z1.ic 0),(51,Z79.ic 0),(52,Z3.ic 0)] }
def run_eq (n:Nat)(ls:List L):eg E (fun _=>[]) Tryz.f35 res n (ew pats ls)=F (eC ls):=by kernel_rfl
def gd (x0:ak):Prop:=x0.length<=1048576
def post (x0:ak)(y:ak×Int):Prop:=∃m:List aa,y.1=m.map aa.row/\cw 16 (fun y:aa=>aa.Sm 64 y) m/\0<=y.2/\y.2<120
def wp (x0:ak)(hg:gd x0):Wp (F x0) (post x0):=by
 unfold F
 refine Z1.bD hg (fun v1 ⟨e0,c1⟩=>?_)
 refine Z79.bD (by rw [e0];exact c1) (fun v2 ⟨c2,m,e2,h2⟩=>?_)
 rw [e0] at c2
 refine Z3.bD (by rw [e0];exact c2) (fun v3 ⟨_,_,h3⟩=>wp_ret ⟨m,e2,h2,h3 (by decide)⟩)
def R:(ak)->Option (ak×Int):=RQ (fun _ x=>F x) (fun x=>post x)
def bD {x0:ak}{γ:Type}[RT γ]{k:(ak×Int)->az}{Q:γ->Prop}(hg:gd x0)(hk:∀y,post x0 y->Wp (k y) Q):Wp (call (R x0) k) Q:=cK ⟨0,wp x0 hg⟩ hk
def acc (ls:List L):ak:=(eC ls)
def aN:gS:=CN pats res acc R
def af:cZ 35 aN:=VQ (live:=(fun _=>[])) (mt:=false) mix aD .nil .nil (.cons (Z1.aU 0) (.cons (Z79.aU 0) (.cons (Z3.aU 0) .nil))) Tryz.func35 (by kernel_rfl) run_eq
end Z80
namespace Z81
def F (x0:ak):az:=(call (Z80.R x0) fun v1=>ret ((v1.1,v1.2):ak×Int))
def pats:List eS:=[.rd (.sl 5)]
def res:RP:=.gL [(false,[.rd (.sl 78)]),(false,[.rd (.int .i64)])]
abbrev E:Env:={ T:=assoc nH,G:=cQ [(35,Z80.aN)],nt:=8,M:=dV [],np:=0,mt:=false,I:=fq [] }
def run_eq (n:Nat)(ls:List L):eg E (fun _=>[]) Tryz.f6 res n (ew pats ls)=F (eC ls):=by kernel_rfl
def gd (x0:ak):Prop:=x0.length<=1048576
def post (x0:ak)(y:ak×Int):Prop:=∃m:List aa,y.1=m.map aa.row/\cw 16 (fun y:aa=>aa.Sm 64 y) m/\0<=y.2/\y.2<120
def wp (x0:ak)(hg:gd x0):Wp (F x0) (post x0):=by
 unfold F
 exact Z80.bD hg (fun v1 h=>wp_ret h)
def R:(ak)->Option (ak×Int):=RQ (fun _ x=>F x) (fun x=>post x)
def iN {x0:ak}(hg:gd x0):∃y,R x0=some y/\post x0 y:=ow ⟨0,wp x0 hg⟩
def acc (ls:List L):ak:=(eC ls)
def aN:gS:=CN pats res acc R
def af:cZ 6 aN:=VQ (live:=(fun _=>[])) (mt:=false) mix aD (dR Z80.af) .nil .nil Tryz.func6 (by kernel_rfl) run_eq
end Z81
namespace Z82
def F (x0 x1 x2:Int):az:=(cond (x1<=x0) (ret ((decide (x0<=x2)):Bool)) bL)
def md (a0 a1 a2:Int):Bool:=(cond (a1<=a0) ((decide (a0<=a2)):Bool) (false:Bool))
def gd (a0 a1 a2:Int):Prop:=True
def R:=qE gd md
def au {a0 a1 a2}(h:gd a0 a1 a2):R (a0,a1,a2)=some (md a0 a1 a2):=qB h
def aN:=CN [pI,pI,pI] oB RT.dec R
def bC (a0)(a1)(a2)(hg:gd a0 a1 a2):F a0 a1 a2=ret (md a0 a1 a2):=by
 unfold F md
 try simp only [SS]
 refine av ret (fun c1=>?_) (fun _=>rfl)
 all_goals exact fz
def af:cZ 86 aN:=W3 15 F mix aD bC .nil Tryz.func86
def br (a0 a1 a2:Int):md a0 a1 a2=Z15.md a0 a1 a2:=by
 unfold md Z15.md
 first | rfl | (rw [Bool.eq_iff_iff];simp)
end Z82
namespace Z83
def F (x0:Int):az:=(call (Z82.R (x0,0,2147483646)) fun v1=>ret (v1:Bool))
def md (a0:Int):Bool:=((Z82.md a0 0 2147483646):Bool)
def gd (a0:Int):Prop:=True
def R:=RR gd md
def au {a0}(h:gd a0):R a0=some (md a0):=dJ h
def aN:=CN [pI] oB RT.dec R
def bC (a0)(hg:gd a0):F a0=ret (md a0):=by
 unfold F md
 try simp only [SS]
 refine ct (Z82.au trivial) ?_
 all_goals exact fz
def af:cZ 130 aN:=W1 5 F mix aD bC (dR Z82.af) Tryz.func130
end Z83
namespace Z84
def F (x0:aR):az:=(cond (x0.aO>=0) (cond (x0.aO<=x0.aZ) (cond (x0.aZ<=100000) (ret ((decide ((i64.wrap (x0.aZ - x0.aO))<=200)):Bool)) bL) bL) bL)
def md (a0:aj):Bool:=(cond (a0.aO>=0) (cond (a0.aO<=a0.aZ) (cond (a0.aZ<=100000) ((decide ((i64.wrap (a0.aZ - a0.aO))<=200)):Bool) (false:Bool)) (false:Bool)) (false:Bool))
def gd (a0:aj):Prop:=True
def R:=RR gd md
def au {a0}(h:gd a0):R (aj.r a0)=some (md a0):=dJ h
def aN:=CN [.agg nQ] oB RT.dec R
def bC (a0)(hg:gd a0):F (aj.r a0)=ret (md a0):=by
 unfold F md
 try simp only [SS]
 refine av ret (fun c1=>?_) (fun _=>rfl)
 refine av ret (fun c2=>?_) (fun _=>rfl)
 refine av ret (fun c3=>?_) (fun _=>rfl)
 all_goals exact fz
def af:cZ 202 aN:=W1 26 F mix aD bC .nil Tryz.func202
end Z84
namespace Z85
inductive Pt where
 | p0 (a:ak) (b c:Int)
def dM:Pt->List V
 | .p0 a b c=>[.sl none 3 a,.int .i64 b,.int .i64 c]
def step (J:Pt->az):Pt->az
 | .p0 a b c=>(cond (c<b) (cond (c>0) (m2 c (a.length:Int) (dZ ((0:Int)<=(i64.wrap (c - 1))) (dZ ((i64.wrap (c - 1))<(a.length:Int)) (cond ((ld a (toNat c))<=(ld a (toNat (i64.wrap (c - 1))))) bL (J (.p0 a b (i64.wrap (c+1)))))))) (J (.p0 a b (i64.wrap (c+1))))) oz)
def start (J:Pt->az)(x0:ak):az:=J (.p0 x0 (x0.length:Int) 0)
def live:Nat->Live:=kA [(2,nP [0,5,6])]
def md (a0:List Int):Bool:=(dX (S:=Unit) (β:=Bool) (fun (i1:Nat) (y1:Int) (s3:Unit)=>(cond ((i1:Int)>0) (cond (y1<=(a0.getD (toNat (i64.wrap ((i1:Int) - 1))) 0)) (.inr (false:Bool)) (.inl ())) (.inl ()))) (fun (s3:Unit)=>(true:Bool)) 0 a0 ())
def gd (a0:List Int):Prop:=(cw (2^38) (fun y:Int=>True) a0)
def R:=RR gd md
def au {a0}(h:gd a0):R (a0.map aQ)=some (md a0):=dJ h
def aN:=CN [pL 3] oB RT.dec R
def bC (a0)(hg:gd a0):∃n,start (iter step n) (a0.map aQ)=ret (md a0):=by
 unfold gd at hg
 have H0:=hg
 unfold start md
 try simp only [SS]
 have Bh2:a0.length<=maxLen:=(by
   have:=(H0).1
   try simp only [maxLen] at *
   omega)
 refine ex_eq (out:=ret) (cX (z:=0)) ?_
 refine eO (p:=Pt.p0 (a0.map aQ) (a0.length:Int) 0) fz ?_
 refine cH (pt:=fun (i1:Nat) (s3:Unit)=>Pt.p0 (a0.map aQ) (a0.length:Int) (i1:Int)) (s:=(():Unit)) (out:=ret) (fun _ _=>True) (fun J i1 s3 h2 hih2=>?_) (fun s3 hih2=>?_) trivial
 ·simp only [step,SS]
  have bb_:=Bh2
  simp only [maxLen] at bb_
  have:=(H0).1
  refine bp.yes (by apply decide_eq_true;omega) ?_
  refine bp.bif (fun c4=>?_) (fun c4=>?_)
  ·have dc4:=c4
   try simp only [DC] at dc4
   refine bp.yes bJ ?_
   refine bp.yes (cA h2) ?_
   refine bp.yes dt ?_
   refine bp.yes (have:=(H0).1;dt) ?_
   refine bp.bif (fun _=>bp.inr rfl) (fun c5=>?_)
   refine bp.inl trivial ?_
   rw [aT h2 Bh2]
   all_goals exact fz
  ·refine bp.inl trivial ?_
   rw [aT h2 Bh2]
   all_goals exact fz
 ·simp only [step,SS]
  have:=(H0).1
  refine eM (by apply decide_eq_false;omega) ?_
  refine ⟨0,?_⟩
  all_goals exact fz
def af:cZ 95 aN:=L1 24 (fun _=>2) dM (fun _=>[]) live step start mix aD bC .nil Tryz.func95
end Z85
namespace Z86
def F (x0:Int):az:=(call (Z82.R (x0,1,99)) fun v1=>ret (v1:Bool))
def md (a0:Int):Bool:=((Z82.md a0 1 99):Bool)
def gd (a0:Int):Prop:=True
def R:=RR gd md
def au {a0}(h:gd a0):R a0=some (md a0):=dJ h
def aN:=CN [pI] oB RT.dec R
def bC (a0)(hg:gd a0):F a0=ret (md a0):=by
 unfold F md
 try simp only [SS]
 refine ct (Z82.au trivial) ?_
 all_goals exact fz
def af:cZ 96 aN:=W1 5 F mix aD bC (dR Z82.af) Tryz.func96
end Z86
namespace Z87
def F (x0:aX):az:=(call (Z82.R ((x0.aI.length:Int),1,4)) fun v1=>(cond v1 (call (Z85.R x0.aI) fun v2=>(cond v2 (dZ ((0:Int)<(x0.aI.length:Int)) (call (Z86.R (ld x0.aI 0)) fun v3=>(cond v3 (dZ ((0:Int)<=(i64.wrap ((x0.aI.length:Int) - 1))) (dZ ((i64.wrap ((x0.aI.length:Int) - 1))<(x0.aI.length:Int)) (call (Z86.R (ld x0.aI (toNat (i64.wrap ((x0.aI.length:Int) - 1))))) fun v4=>(cond v4 (call (Z82.R (x0.bS,1,(x0.aI.length:Int))) fun v5=>ret (v5:Bool)) bL)))) bL))) bL)) bL))
def md (a0:aq):Bool:=(cond (Z82.md (a0.aI.length:Int) 1 4) (cond (Z85.md a0.aI) (cond (Z86.md (a0.aI.getD 0 0)) (cond (Z86.md (a0.aI.getD (toNat (i64.wrap ((a0.aI.length:Int) - 1))) 0)) ((Z82.md a0.bS 1 (a0.aI.length:Int)):Bool) (false:Bool)) (false:Bool)) (false:Bool)) (false:Bool))
def gd (a0:aq):Prop:=(aq.Sm (2^21) a0)
def R:=RR gd md
def au {a0}(h:gd a0):R (aq.r a0)=some (md a0):=dJ h
def aN:=CN [.agg nR] oB RT.dec R
def bC (a0)(hg:gd a0):F (aq.r a0)=ret (md a0):=by
 unfold gd at hg
 have H0:=hg
 unfold F md
 try simp only [SS]
 refine ct (Z82.au trivial) ?_
 refine av ret (fun c1=>?_) (fun _=>rfl)
 have Dc1:=c1
 try simp [Z82.md] at Dc1
 refine ct (Z85.au (H0.mono (by decide) (fun x hx=>trivial))) ?_
 refine av ret (fun c2=>?_) (fun _=>rfl)
 refine bn (have:=(H0).1;dt) ?_
 refine ct (Z86.au trivial) ?_
 refine av ret (fun c3=>?_) (fun _=>rfl)
 refine bn (have:=(H0).1;dt) ?_
 refine bn (have:=(H0).1;dt) ?_
 refine ct (Z86.au trivial) ?_
 refine av ret (fun c4=>?_) (fun _=>rfl)
 refine ct (Z82.au trivial) ?_
 all_goals exact fz
def af:cZ 49 aN:=W1 38 F mix aD bC (pG Z82.af Z85.af Z86.af) Tryz.func49
def Dj {l:List Int}(h:∀i:Nat,i<l.length->0<i->l.getD (i - 1) 0<l.getD i 0):∀(k i:Nat),i+k<l.length->l.getD i 0<=l.getD (i+k) 0
 | 0,i,_=>Int.le_refl _
 | k+1,i,hi=>by
  have h1:=Dj h k i (by omega)
  have h2:=h (i+(k+1)) hi (by omega)
  rw [show i+(k+1) - 1=i+k by omega] at h2
  omega
def br (a0:aq):md a0=Z38.md a0:=by
 unfold md Z38.md Z85.md
 simp only [Z82.br,Z86.md]
 by_cases hl:1<=a0.aI.length/\a0.aI.length<=4
 ·have e1:Z15.md (a0.aI.length:Int) 1 4=true:=by simp [Z15.md];omega
  rw [e1]
  have wp:∀i:Nat,0<i->i<=4->toNat (i64.wrap ((i:Int) - 1))=i - 1:=fun i h1 h2=>by
   rw [Go.IntWalk.i64_in _ (by omega)];omega
  rw [wp _ (by omega) (by omega)]
  generalize a0.bS=n
  generalize a0.aI=l at *
  have i1:∀x a b:Int,Z15.md x a b=true↔a<=x/\x<=b:=fun x a b=>by simp [Z15.md]
  have i2:∀x a b:Int,Z15.md x a b=false↔¬(a<=x/\x<=b):=fun x a b=>by rw [<-i1];simp
  have w2:∀i:Nat,i<l.length->0<i->toNat (i64.wrap ((i:Int) - 1))=i - 1:=fun i h1 h2=>wp i h2 (by omega)
  rw [Bool.eq_iff_iff,<-cX (z:=0),<-cX (z:=0)]
  have e3:∀a b c d:Bool,(cond true (cond a (cond b (cond c d false) false) false) false)=true↔a=true/\b=true/\c=true/\d=true:=by
   intro a b c d;cases a<;>cases b<;>cases c<;>simp
  have pos:∀i:Nat,0<i->decide ((i:Int)>0)=true:=fun i h=>by simpa using h
  have npos:∀i:Nat,¬0<i->decide ((i:Int)>0)=false:=fun i h=>by simpa using h
  rw [e3]
  rw [qX (fun i=>0<i->l.getD (i - 1) 0<l.getD i 0) (fun i hi h=>?_) (fun i hi h=>?_),qX (fun i=>(1<=l.getD i 0/\l.getD i 0<=99)/\(0<i->l.getD (i - 1) 0<l.getD i 0)) (fun i hi h=>?_) (fun i hi h=>?_)]
  ·simp only [i1,and_true,aC]
   constructor
   ·rintro ⟨h1,⟨h2,h3⟩,⟨h4,h5⟩,h6⟩
    refine ⟨fun i hi=>⟨⟨?_,?_⟩,h1 i hi⟩,h6⟩
    ·have:=Dj h1 i 0 (by omega)
     rw [Nat.zero_add] at this;omega
    ·have:=Dj h1 (l.length - 1 - i) i (by omega)
     rw [show i+(l.length - 1 - i)=l.length - 1 by omega] at this;omega
   ·rintro ⟨h1,h6⟩
    exact ⟨fun i hi=>(h1 i hi).2,(h1 0 (by omega)).1,(h1 (l.length - 1) (by omega)).1,h6⟩
  ·have e2:=(i1 (l.getD i 0) 1 99).2 h.1
   rw [e2]
   by_cases h0:0<i
   ·have:=h.2 h0
    rw [pos i h0,w2 i hi h0,decide_eq_false (by omega)];rfl
   ·rw [npos i h0];rfl
  ·by_cases h1:1<=l.getD i 0/\l.getD i 0<=99
   ·have e2:=(i1 (l.getD i 0) 1 99).2 h1
    have h0:0<i:=Classical.byContradiction fun hc=>h ⟨h1,fun h=>(hc h).elim⟩
    have h2:¬l.getD (i - 1) 0<l.getD i 0:=fun hc=>h ⟨h1,fun _=>hc⟩
    rw [e2,pos i h0,w2 i hi h0,decide_eq_true (by omega)];rfl
   ·rw [(i2 _ _ _).2 h1];rfl
  ·by_cases h0:0<i
   ·have:=h h0
    rw [pos i h0,w2 i hi h0,decide_eq_false (by omega)];rfl
   ·rw [npos i h0];rfl
  ·have h0:0<i:=Classical.byContradiction fun hc=>h fun h=>(hc h).elim
   have h2:¬l.getD (i - 1) 0<l.getD i 0:=fun hc=>h fun _=>hc
   rw [pos i h0,w2 i hi h0,decide_eq_true (by omega)];rfl
 ·have e1:Z15.md (a0.aI.length:Int) 1 4=false:=by simp [Z15.md];omega
  rw [e1]
  simp only [aL]
  symm
  exact lO (by
   intro i x s b h
   revert h
   simp only [Bool.cond_eq_ite]
   repeat' split
   all_goals (intro h;first | (cases h;rfl) | cases h)) _ _ _
end Z87
namespace Z88
def F (x0:aX):az:=(cond (x0.bS==0) (ret (((x0.aI.length:Int)==0):Bool)) bL)
def md (a0:aq):Bool:=(cond (a0.bS==0) (((a0.aI.length:Int)==0):Bool) (false:Bool))
def gd (a0:aq):Prop:=True
def R:=RR gd md
def au {a0}(h:gd a0):R (aq.r a0)=some (md a0):=dJ h
def aN:=CN [.agg nR] oB RT.dec R
def bC (a0)(hg:gd a0):F (aq.r a0)=ret (md a0):=by
 unfold F md
 try simp only [SS]
 refine av ret (fun c1=>?_) (fun _=>rfl)
 all_goals exact fz
def af:cZ 205 aN:=W1 12 F mix aD bC .nil Tryz.func205
def br (a0:aq):md a0=Z39.md a0:=by
 unfold md Z39.md
 first
 | (simp only [id];done)
 | (simp only [id];rfl)
 | rfl
end Z88
namespace Z89
def F (x0:aX):az:=(call (Z88.R x0) fun v1=>(cond v1 oz (call (Z87.R x0) fun v2=>ret (v2:Bool))))
def md (a0:aq):Bool:=(cond (Z88.md a0) (true:Bool) ((Z87.md a0):Bool))
def gd (a0:aq):Prop:=(aq.Sm (2^21) a0)
def R:=RR gd md
def au {a0}(h:gd a0):R (aq.r a0)=some (md a0):=dJ h
def aN:=CN [.agg nR] oB RT.dec R
def bC (a0)(hg:gd a0):F (aq.r a0)=ret (md a0):=by
 unfold gd at hg
 have H0:=hg
 unfold F md
 try simp only [SS]
 refine ct (Z88.au trivial) ?_
 refine av ret (fun _=>rfl) (fun c1=>?_)
 refine ct (Z87.au H0) ?_
 all_goals exact fz
def af:cZ 203 aN:=W1 9 F mix aD bC (gD Z88.af Z87.af) Tryz.func203
end Z89
namespace Z90
def F (x0:Int)(x1:aX):az:=(call (Z88.R x1) fun v1=>(cond v1 (ret ((x0==0):Bool)) (call (Z82.R (x0,1,500)) fun v2=>ret (v2:Bool))))
def md (a0:Int)(a1:aq):Bool:=(cond (Z88.md a1) ((a0==0):Bool) ((Z82.md a0 1 500):Bool))
def gd (a0:Int)(a1:aq):Prop:=True
def R:=dO gd md
def au {a0 a1}(h:gd a0 a1):R (a0,(aq.r a1))=some (md a0 a1):=dN h
def aN:=CN [pI,.agg nR] oB RT.dec R
def bC (a0)(a1)(hg:gd a0 a1):F a0 (aq.r a1)=ret (md a0 a1):=by
 unfold F md
 try simp only [SS]
 refine ct (Z88.au trivial) ?_
 refine av ret (fun c1=>?_) (fun c1=>?_)
 ·all_goals exact fz
 ·refine ct (Z82.au trivial) ?_
  all_goals exact fz
def af:cZ 204 aN:=W2 11 F mix aD bC (gD Z88.af Z82.af) Tryz.func204
end Z90
namespace Z91
def F (x0:aR):az:=(call (Z83.R x0.bq) fun v1=>(cond v1 (call (Z83.R x0.bE) fun v2=>(cond v2 (call (Z83.R x0.bW) fun v3=>(cond v3 (call (Z82.R (x0.aY,0,200)) fun v4=>(cond v4 (call (Z82.R (x0.aP,1,3)) fun v5=>(cond v5 (call (Z84.R x0) fun v6=>(cond v6 (call (Z82.R (x0.bk,0,12)) fun v7=>(cond v7 (call (Z87.R x0.aE) fun v8=>(cond v8 (call (Z89.R x0.aM) fun v9=>(cond v9 (call (Z89.R x0.aK) fun v10=>(cond v10 (call (Z90.R (x0.bu,x0.aM)) fun v11=>(cond v11 (cond x0.aH (call (Z88.R x0.aK) fun v12=>ret ((!v12):Bool)) oz) bL)) bL)) bL)) bL)) bL)) bL)) bL)) bL)) bL)) bL)) bL))
def md (a0:aj):Bool:=(cond (Z83.md a0.bq) (cond (Z83.md a0.bE) (cond (Z83.md a0.bW) (cond (Z82.md a0.aY 0 200) (cond (Z82.md a0.aP 1 3) (cond (Z84.md a0) (cond (Z82.md a0.bk 0 12) (cond (Z87.md a0.aE) (cond (Z89.md a0.aM) (cond (Z89.md a0.aK) (cond (Z90.md a0.bu a0.aM) (cond a0.aH ((!(Z88.md a0.aK)):Bool) (true:Bool)) (false:Bool)) (false:Bool)) (false:Bool)) (false:Bool)) (false:Bool)) (false:Bool)) (false:Bool)) (false:Bool)) (false:Bool)) (false:Bool)) (false:Bool))
def gd (a0:aj):Prop:=(aj.Sm (2^21) a0)
def R:=RR gd md
def au {a0}(h:gd a0):R (aj.r a0)=some (md a0):=dJ h
def aN:=CN [.agg nQ] oB RT.dec R
def bC (a0)(hg:gd a0):F (aj.r a0)=ret (md a0):=by
 unfold gd at hg
 have H0:=hg
 unfold F md
 try simp only [SS]
 refine ct (Z83.au trivial) ?_
 refine av ret (fun c1=>?_) (fun _=>rfl)
 refine ct (Z83.au trivial) ?_
 refine av ret (fun c2=>?_) (fun _=>rfl)
 refine ct (Z83.au trivial) ?_
 refine av ret (fun c3=>?_) (fun _=>rfl)
 refine ct (Z82.au trivial) ?_
 refine av ret (fun c4=>?_) (fun _=>rfl)
 refine ct (Z82.au trivial) ?_
 refine av ret (fun c5=>?_) (fun _=>rfl)
 refine ct (Z84.au trivial) ?_
 refine av ret (fun c6=>?_) (fun _=>rfl)
 refine ct (Z82.au trivial) ?_
 refine av ret (fun c7=>?_) (fun _=>rfl)
 refine ct (Z87.au H0.1) ?_
 refine av ret (fun c8=>?_) (fun _=>rfl)
 refine ct (Z89.au H0.2.1) ?_
 refine av ret (fun c9=>?_) (fun _=>rfl)
 refine ct (Z89.au H0.2.2) ?_
 refine av ret (fun c10=>?_) (fun _=>rfl)
 refine ct (Z90.au trivial) ?_
 refine av ret (fun c11=>?_) (fun _=>rfl)
 refine av ret (fun c12=>?_) (fun _=>rfl)
 refine ct (Z88.au trivial) ?_
 all_goals exact fz
def af:cZ 164 aN:=W1 67 F mix aD bC (CU Z83.af Z82.af Z84.af Z87.af Z89.af Z90.af Z88.af) Tryz.func164
def br (a0:aj):md a0=Z40.md a0:=by
 unfold md Z40.md
 simp only [Z87.br,Z82.br,Z83.md,Z89.md,Z90.md,Z88.br]
 have hs:Z84.md a0=(Z15.md a0.aO 0 100000&&(Z15.md a0.aZ a0.aO 100000&&!decide ((i64.wrap (a0.aZ - a0.aO))>200))):=by
  rw [Bool.eq_iff_iff]
  simp [Z84.md,Z15.md]
  omega
 have hk:Z38.md a0.aK=true->Z39.md a0.aK=false:=fun h=>by
  have:=Z38.tr h
  have e:((a0.aK.aI.length:Int)==0)=false:=beq_eq_false_iff_ne.2 (by omega)
  unfold Z39.md
  rw [e]
  cases a0.aK.bS==0<;>rfl
 rw [hs]
 revert hk
 simp only [CV,C2,Bool.and_assoc]
 generalize Z15.md a0.bq 0 2147483646=b1
 generalize Z15.md a0.bE 0 2147483646=b2
 generalize Z15.md a0.bW 0 2147483646=b3
 generalize Z15.md a0.aY 0 200=b4
 generalize Z15.md a0.aP 1 3=b5
 generalize Z15.md a0.aO 0 100000=b6
 generalize Z15.md a0.aZ a0.aO 100000=b7
 generalize decide ((i64.wrap (a0.aZ - a0.aO))>200)=b8
 generalize Z15.md a0.bk 0 12=b9
 generalize Z38.md a0.aE=b10
 generalize Z38.md a0.aM=kh
 generalize Z39.md a0.aM=nh
 generalize Z38.md a0.aK=kj
 generalize Z39.md a0.aK=nj
 generalize Z15.md a0.bu 1 500=lw
 have hw:(a0.bu != 0)=!(a0.bu==0):=rfl
 rw [hw]
 generalize (a0.bu==0)=w0
 generalize a0.aH=fz
 intro hk
 cases b1;· rfl
 cases b2;· rfl
 cases b3;· rfl
 cases b4;· rfl
 cases b5;· rfl
 cases b6;· rfl
 cases b7;· rfl
 cases b8;rotate_left;· rfl
 cases b9;· rfl
 cases b10;· rfl
 revert hk
 revert kh nh kj nj lw w0 fz
 decide
end Z91
namespace Z92
def F (x0:aX):az:=(dZ (gy (((2:Int)+(x0.aI.length:Int))*8)) (ret (([[L.int x0.bS],[L.int (x0.aI.length:Int)]]++x0.aI):ak)))
def md (a0:aq):List Int:=([a0.bS,(a0.aI.length:Int)]++a0.aI)
def gd (a0:aq):Prop:=(aq.Sm (2^21) a0)
def R:=RR gd md
def au {a0}(h:gd a0):R (aq.r a0)=some ((md a0).map aQ):=dJ h
def aN:=CN [.agg nR] (oL 3) RT.dec R
def bC (a0)(hg:gd a0):F (aq.r a0)=ret ((md a0).map aQ):=by
 unfold gd at hg
 have H0:=hg
 unfold F md
 try simp only [SS]
 refine bn (have:=(H0).1;lm) ?_
 all_goals exact fz
def af:cZ 207 aN:=W1 12 F mix aD bC .nil Tryz.func207
def len (a0:aq):(md a0).length=2+a0.aI.length:=by simp [md];omega
def br (a0:aq):md a0=Z23.md a0:=by
 unfold md Z23.md
 first
 | (simp only [id];done)
 | (simp only [id];rfl)
 | rfl
end Z92
namespace Z93
def F (x0 x1:Int):az:=(call (Z82.R (x1,1,1000000000000)) fun v1=>(cond (!v1) (ret (0:Int)) (cond (x1=0) none (cond (x1=0) none (ret ((Int.tmod (i64.wrap ((Int.tmod x0 x1)+x1)) x1):Int))))))
def md (a0 a1:Int):Int:=(cond (!(Z82.md a1 1 1000000000000)) (0:Int) ((Int.tmod (i64.wrap ((Int.tmod a0 a1)+a1)) a1):Int))
def gd (a0 a1:Int):Prop:=True
def R:=dO gd md
def au {a0 a1}(h:gd a0 a1):R (a0,a1)=some (md a0 a1):=dN h
def aN:=CN [pI,pI] oI RT.dec R
def bC (a0)(a1)(hg:gd a0 a1):F a0 a1=ret (md a0 a1):=by
 unfold F md
 try simp only [SS]
 refine ct (Z82.au trivial) ?_
 refine av ret (fun _=>rfl) (fun c1=>?_)
 have dc1:=c1
 try simp only [DC] at dc1
 have Dc1:=c1
 try simp [Z82.md] at Dc1
 refine gX df ?_
 refine gX df ?_
 all_goals exact fz
def af:cZ 230 aN:=W2 15 F mix aD bC (dR Z82.af) Tryz.func230
def br (a0 a1:Int):md a0 a1=Z24.md a0 a1:=by
 unfold md Z24.md
 first
 | (simp only [Z82.br];done)
 | (simp only [Z82.br];rfl)
 | rfl
end Z93
end Go.DM
end
