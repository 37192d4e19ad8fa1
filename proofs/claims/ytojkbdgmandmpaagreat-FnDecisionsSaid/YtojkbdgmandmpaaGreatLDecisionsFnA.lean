/- What the functions compute that the law reaches, and that the law returns true. Conditions: none. -/
import Derived.Test.YtojkbdgmandmpaaGreatLDecisionsTy
import Derived.Test.YtojkbdgmandmpaaGreatProg
import Derived.Lib.AppendZerosOnto
import Derived.Lib.Bytealg
import Derived.Laws.Externs
import Derived.Lib.Walk
import Derived.Lib.Hide
import Derived.Lib.Strings
set_option linter.all false
set_option maxRecDepth 100000
noncomputable section
namespace Go.DM
open Go.Proofs
open Go.IntKind (i64)
open Int (toNat)
open Nat (le_trans zero_le)
abbrev aQ:=K.int .i64
abbrev sP:=ret ((-1):Int)
abbrev eA {A B A' B' Z Z':Type}[Im A A'][Im B B'][Im Z Z'](g:A->B->Prop)(m:A->B->Z):=RR (p2 g) (u2 m)
abbrev ot {A B C A' B' C' Z Z':Type}[Im A A'][Im B B'][Im C C'][Im Z Z'](g:A->B->C->Prop)(m:A->B->C->Z):=RR (p3 g) (u3 m)
abbrev xL {A B C D A' B' C' D' Z Z':Type}[Im A A'][Im B B'][Im C C'][Im D D'][Im Z Z'](g:A->B->C->D->Prop)(m:A->B->C->D->Z):=RR (p4 g) (u4 m)
abbrev zk {A B C D E A' B' C' D' E' Z Z':Type}[Im A A'][Im B B'][Im C C'][Im D D'][Im E E'][Im Z Z'](g:A->B->C->D->E->Prop)(m:A->B->C->D->E->Z):=RR (p5 g) (u5 m)
abbrev aS:=ret (false:Bool)
abbrev ff:=ret (true:Bool)
abbrev EM (b:Int):Bool:=Nat.beq (toNat b) (toNat b)&&true
def mN (l:List Nat):Live:=l.map fun i=>(i,none)
def iD:List (Nat×Live)->Nat->Live
 | [],_=>[]
 | (k,v)::r,i=>cond (Nat.beq k i) v (iD r i)
section
variable {P:Program} {E:Env} {f1:Nat} {c1:gW} {f2:Nat} {c2:gW} {f3:Nat} {c3:gW} {f4:Nat} {c4:gW} {f5:Nat} {c5:gW} {f6:Nat} {c6:gW} {f7:Nat} {c7:gW}
theorem dV (h1:Valid P E f1 c1):fR P E [(f1,c1)]:=.cons h1 .nil
theorem gH (h1:Valid P E f1 c1)(h2:Valid P E f2 c2):fR P E [(f1,c1),(f2,c2)]:=.cons h1 (dV h2)
theorem nD (h1:Valid P E f1 c1)(h2:Valid P E f2 c2)(h3:Valid P E f3 c3):fR P E [(f1,c1),(f2,c2),(f3,c3)]:=.cons h1 (gH h2 h3)
theorem tG (h1:Valid P E f1 c1)(h2:Valid P E f2 c2)(h3:Valid P E f3 c3)(h4:Valid P E f4 c4):fR P E [(f1,c1),(f2,c2),(f3,c3),(f4,c4)]:=.cons h1 (nD h2 h3 h4)
theorem xY (h1:Valid P E f1 c1)(h2:Valid P E f2 c2)(h3:Valid P E f3 c3)(h4:Valid P E f4 c4)(h5:Valid P E f5 c5):fR P E [(f1,c1),(f2,c2),(f3,c3),(f4,c4),(f5,c5)]:=.cons h1 (tG h2 h3 h4 h5)
theorem vN (h1:Valid P E f1 c1)(h2:Valid P E f2 c2)(h3:Valid P E f3 c3)(h4:Valid P E f4 c4)(h5:Valid P E f5 c5)(h6:Valid P E f6 c6):fR P E [(f1,c1),(f2,c2),(f3,c3),(f4,c4),(f5,c5),(f6,c6)]:=.cons h1 (xY h2 h3 h4 h5 h6)
theorem Cd (h1:Valid P E f1 c1)(h2:Valid P E f2 c2)(h3:Valid P E f3 c3)(h4:Valid P E f4 c4)(h5:Valid P E f5 c5)(h6:Valid P E f6 c6)(h7:Valid P E f7 c7):fR P E [(f1,c1),(f2,c2),(f3,c3),(f4,c4),(f5,c5),(f6,c6),(f7,c7)]:=.cons h1 (vN h2 h3 h4 h5 h6 h7)
end
def dX {A A' Z Z':Type}[Im A A'][Im Z Z']{g:A->Prop}{m:A->Z}{a:A}(h:g a):RR (g) (m) (Im.im a)=some (Im.im (m a):Z'):=wk (a:=(a)) h
def eB {A B A' B' Z Z':Type}[Im A A'][Im B B'][Im Z Z']{g:A->B->Prop}{m:A->B->Z}{a:A}{b:B}(h:g a b):RR (p2 g) (u2 m) ((Im.im a:A'),(Im.im b:B'))=some (Im.im (m a b):Z'):=wk (a:=(a,b)) h
def nZ {A B C A' B' C' Z Z':Type}[Im A A'][Im B B'][Im C C'][Im Z Z']{g:A->B->C->Prop}{m:A->B->C->Z}{a:A}{b:B}{c:C}(h:g a b c):RR (p3 g) (u3 m) ((Im.im a:A'),(Im.im b:B'),(Im.im c:C'))=some (Im.im (m a b c):Z'):=wk (a:=(a,b,c)) h
def yg {A B C D A' B' C' D' Z Z':Type}[Im A A'][Im B B'][Im C C'][Im D D'][Im Z Z']{g:A->B->C->D->Prop}{m:A->B->C->D->Z}{a:A}{b:B}{c:C}{d:D}(h:g a b c d):RR (p4 g) (u4 m) ((Im.im a:A'),(Im.im b:B'),(Im.im c:C'),(Im.im d:D'))=some (Im.im (m a b c d):Z'):=wk (a:=(a,b,c,d)) h
def zB {A B C D E A' B' C' D' E' Z Z':Type}[Im A A'][Im B B'][Im C C'][Im D D'][Im E E'][Im Z Z']{g:A->B->C->D->E->Prop}{m:A->B->C->D->E->Z}{a:A}{b:B}{c:C}{d:D}{e:E}(h:g a b c d e):RR (p5 g) (u5 m) ((Im.im a:A'),(Im.im b:B'),(Im.im c:C'),(Im.im d:D'),(Im.im e:E'))=some (Im.im (m a b c d e):Z'):=wk (a:=(a,b,c,d,e)) h
abbrev k7:List K:=[aQ,aQ,.bool,.int .u8]
abbrev f7:List Lf:=[fI,fI,fB,.rd (.int .u8)]
abbrev k8:List K:=[aQ,aQ,.bool,.int .u8]
abbrev f8:List Lf:=[fI,fI,fB,.rd (.int .u8)]
abbrev tB:List K:=[.str,.int .u64]
abbrev f13:List Lf:=[fS,.rd (.int .u64)]
abbrev tF:List K:=[.str,.int .u64]
abbrev f14:List Lf:=[fS,.rd (.int .u64)]
abbrev ED:List K:=[.sl 3,aQ]
abbrev f30:List Lf:=[.fr 3,fI]
abbrev xz:List K:=[.sl 3,aQ]
abbrev f31:List Lf:=[.fr 3,fI]
abbrev ER:List K:=[aQ,aQ,aQ,aQ,aQ,aQ,aQ,aQ,.sl 3,aQ,.sl 3,aQ,aQ,.sl 3,aQ,.bool]
abbrev f34:List Lf:=[fI,fI,fI,fI,fI,fI,fI,fI,.fr 3,fI,.fr 3,fI,fI,.fr 3,fI,fB]
abbrev sZ:List K:=[aQ,aQ,aQ,aQ,aQ,aQ,aQ,aQ,.sl 3,aQ,.sl 3,aQ,aQ,.sl 3,aQ,.bool]
abbrev f35:List Lf:=[fI,fI,fI,fI,fI,fI,fI,fI,.fr 3,fI,.fr 3,fI,fI,.fr 3,fI,fB]
abbrev ES:List K:=[aQ,.sl 3,aQ,aQ]
abbrev f40:List Lf:=[fI,.fr 3,fI,fI]
abbrev EW:List K:=[aQ,.sl 3,aQ,aQ]
abbrev f41:List Lf:=[fI,.fr 3,fI,fI]
abbrev EP:List K:=[.str,aQ,aQ,.sl 9]
abbrev f52:List Lf:=[fS,fI,fI,.fr 9]
abbrev xx:List K:=[.str,aQ,aQ,.sl 9]
abbrev f53:List Lf:=[fS,fI,fI,.fr 9]
abbrev EN:List K:=[aQ,.str,aQ,aQ,.sl 9,.sl 53]
abbrev f55:List Lf:=[fI,fS,fI,fI,.fr 9,.fr 53]
abbrev Eb:List K:=[aQ,.str,aQ,aQ,.sl 9,.sl 53]
abbrev f56:List Lf:=[fI,fS,fI,fI,.fr 9,.fr 53]
abbrev EO:List K:=[.sl 24,.sl 185]
abbrev f64:List Lf:=[.fr 24,.fr 185]
abbrev BU:List K:=[.sl 24,.sl 185]
abbrev f65:List Lf:=[.fr 24,.fr 185]
abbrev EX:List K:=[.sl 24,.sl 185,aQ,.str,aQ,aQ,.sl 9,.sl 3,aQ]
abbrev f66:List Lf:=[.fr 24,.fr 185,fI,fS,fI,fI,.fr 9,.fr 3,fI]
abbrev Dn:List K:=[.sl 24,.sl 185,aQ,.str,aQ,aQ,.sl 9,.sl 3,aQ]
abbrev f67:List Lf:=[.fr 24,.fr 185,fI,fS,fI,fI,.fr 9,.fr 3,fI]
abbrev EV:List K:=[aQ,aQ,aQ,aQ,aQ,aQ,aQ,aQ,.sl 3,aQ,.sl 3,aQ,aQ,.sl 3,aQ,.bool,.sl 209]
abbrev f77:List Lf:=[fI,fI,fI,fI,fI,fI,fI,fI,.fr 3,fI,.fr 3,fI,fI,.fr 3,fI,fB,.fr 209]
abbrev CV:List K:=[aQ,aQ,aQ,aQ,aQ,aQ,aQ,aQ,.sl 3,aQ,.sl 3,aQ,aQ,.sl 3,aQ,.bool,.sl 209]
abbrev f78:List Lf:=[fI,fI,fI,fI,fI,fI,fI,fI,.fr 3,fI,.fr 3,fI,fI,.fr 3,fI,fB,.fr 209]
abbrev Et:List K:=[.sl 9,.str,aQ,aQ,.sl 9]
abbrev f113:List Lf:=[.fr 9,fS,fI,fI,.fr 9]
abbrev Eu:List K:=[.sl 9,.str,aQ,aQ,.sl 9]
abbrev f114:List Lf:=[.fr 9,fS,fI,fI,.fr 9]
abbrev EF:List K:=[.sl 5,aQ,aQ]
abbrev f129:List Lf:=[.fr 5,fI,fI]
abbrev Ee:List K:=[.sl 5,aQ,aQ]
abbrev f130:List Lf:=[.fr 5,fI,fI]
abbrev EE:List K:=[.sl 78,.sl 53]
abbrev f138:List Lf:=[.fr 78,.fr 53]
abbrev xd:List K:=[.sl 78,.sl 53]
abbrev f139:List Lf:=[.fr 78,.fr 53]
abbrev Ew:List K:=[.str,aQ]
abbrev f143:List Lf:=[fS,fI]
abbrev Ek:List K:=[.str,aQ]
abbrev f144:List Lf:=[fS,fI]
abbrev Er:List K:=[.sl 139,aQ]
abbrev f176:List Lf:=[.fr 139,fI]
abbrev Aw:List K:=[.sl 139,aQ]
abbrev f177:List Lf:=[.fr 139,fI]
abbrev Ef:List K:=[aQ,aQ,aQ,aQ,aQ,aQ,aQ,aQ,.sl 3,aQ,.sl 3,aQ,aQ,.sl 3,aQ,.bool,.sl 209,aQ,aQ,aQ,aQ,aQ,aQ,aQ,aQ,.sl 3,aQ,.sl 3,aQ,aQ,.sl 3,aQ,.bool,.sl 209,aQ,aQ,aQ,aQ,aQ,aQ,aQ,aQ,.sl 3,aQ,.sl 3,aQ,aQ,.sl 3,aQ,.bool,.sl 209]
abbrev f184:List Lf:=[fI,fI,fI,fI,fI,fI,fI,fI,.fr 3,fI,.fr 3,fI,fI,.fr 3,fI,fB,.fr 209,fI,fI,fI,fI,fI,fI,fI,fI,.fr 3,fI,.fr 3,fI,fI,.fr 3,fI,fB,.fr 209,fI,fI,fI,fI,fI,fI,fI,fI,.fr 3,fI,.fr 3,fI,fI,.fr 3,fI,fB,.fr 209]
abbrev B1:List K:=[aQ,aQ,aQ,aQ,aQ,aQ,aQ,aQ,.sl 3,aQ,.sl 3,aQ,aQ,.sl 3,aQ,.bool,.sl 209,aQ,aQ,aQ,aQ,aQ,aQ,aQ,aQ,.sl 3,aQ,.sl 3,aQ,aQ,.sl 3,aQ,.bool,.sl 209,aQ,aQ,aQ,aQ,aQ,aQ,aQ,aQ,.sl 3,aQ,.sl 3,aQ,aQ,.sl 3,aQ,.bool,.sl 209]
abbrev f185:List Lf:=[fI,fI,fI,fI,fI,fI,fI,fI,.fr 3,fI,.fr 3,fI,fI,.fr 3,fI,fB,.fr 209,fI,fI,fI,fI,fI,fI,fI,fI,.fr 3,fI,.fr 3,fI,fI,.fr 3,fI,fB,.fr 209,fI,fI,fI,fI,fI,fI,fI,fI,.fr 3,fI,.fr 3,fI,fI,.fr 3,fI,fB,.fr 209]
abbrev Ed:List K:=[.sl 24,.sl 185,.bool,.str,aQ,aQ,.sl 9,.bool,.sl 3]
abbrev f189:List Lf:=[.fr 24,.fr 185,fB,fS,fI,fI,.fr 9,fB,.fr 3]
abbrev DB:List K:=[.sl 24,.sl 185,.bool,.str,aQ,aQ,.sl 9,.bool,.sl 3]
abbrev f190:List Lf:=[.fr 24,.fr 185,fB,fS,fI,fI,.fr 9,fB,.fr 3]
abbrev En:List K:=[aQ,aQ]
abbrev f208:List Lf:=[fI,fI]
abbrev DR:List K:=[aQ,aQ]
abbrev f209:List Lf:=[fI,fI]
abbrev Ep:List K:=[aQ,.sl 3]
abbrev f223:List Lf:=[fI,.fr 3]
abbrev AV:List K:=[aQ,.sl 3]
abbrev f224:List Lf:=[fI,.fr 3]
abbrev Ez:List K:=[aQ,.str,aQ,aQ,.sl 9,.str,aQ,aQ,.sl 9,aQ,.sl 3,aQ,.sl 3]
abbrev f225:List Lf:=[fI,fS,fI,fI,.fr 9,fS,fI,fI,.fr 9,fI,.fr 3,fI,.fr 3]
abbrev Ci:List K:=[aQ,.str,aQ,aQ,.sl 9,.str,aQ,aQ,.sl 9,aQ,.sl 3,aQ,.sl 3]
abbrev f226:List Lf:=[fI,fS,fI,fI,.fr 9,fS,fI,fI,.fr 9,fI,.fr 3,fI,.fr 3]
abbrev EG:List K:=[.sl 78,.bool,.str,aQ,aQ,.sl 9,aQ,.sl 3,aQ,.str,aQ,aQ,.sl 9,.str,aQ,aQ,.sl 9,aQ,.sl 3,aQ,.sl 3]
abbrev f227:List Lf:=[.fr 78,fB,fS,fI,fI,.fr 9,fI,.fr 3,fI,fS,fI,fI,.fr 9,fS,fI,fI,.fr 9,fI,.fr 3,fI,.fr 3]
abbrev CY:List K:=[.sl 78,.bool,.str,aQ,aQ,.sl 9,aQ,.sl 3,aQ,.str,aQ,aQ,.sl 9,.str,aQ,aQ,.sl 9,aQ,.sl 3,aQ,.sl 3]
abbrev f228:List Lf:=[.fr 78,fB,fS,fI,fI,.fr 9,fI,.fr 3,fI,fS,fI,fI,.fr 9,fS,fI,fI,.fr 9,fI,.fr 3,fI,.fr 3]
def mD:List (Nat×TI):=[
 (2,⟨[aQ],false,[],8,false⟩),
 (3,⟨[aQ],false,[],8,false⟩),
 (4,⟨[.bool],false,[],1,false⟩),
 (5,⟨[.int .u8],false,[],1,false⟩),
 (6,⟨[.int .u8],false,[],1,false⟩),
 (7,⟨k7,true,[(0,2),(1,3),(2,4),(3,6)],24,false⟩),
 (8,⟨k8,true,[(0,2),(1,3),(2,4),(3,6)],24,false⟩),
 (9,⟨[.str],false,[],16,false⟩),
 (10,⟨[.str],false,[],16,false⟩),
 (11,⟨[.str],false,[],16,false⟩),
 (12,⟨[.int .u64],false,[],8,false⟩),
 (13,⟨tB,true,[(0,9),(1,12)],24,false⟩),
 (14,⟨tF,true,[(0,9),(1,12)],24,false⟩),
 (21,⟨[.int .i32],false,[],4,false⟩),
 (22,⟨[.sl 5],false,[],24,false⟩),
 (24,⟨[.sl 78],false,[],24,false⟩),
 (27,⟨[.sl 41],false,[],24,false⟩),
 (29,⟨[.sl 3],false,[],24,false⟩),
 (30,⟨ED,true,[(0,29),(1,3)],32,false⟩),
 (31,⟨xz,true,[(0,29),(1,3)],32,false⟩),
 (34,⟨ER,true,[(0,3),(1,3),(2,3),(3,3),(4,3),(5,3),(6,3),(7,3),(8,31),(10,31),(12,3),(13,31),(15,4)],176,false⟩),
 (35,⟨sZ,true,[(0,3),(1,3),(2,3),(3,3),(4,3),(5,3),(6,3),(7,3),(8,31),(10,31),(12,3),(13,31),(15,4)],176,false⟩),
 (40,⟨ES,true,[(0,3),(1,31),(3,3)],48,false⟩),
 (41,⟨EW,true,[(0,3),(1,31),(3,3)],48,false⟩),
 (47,⟨[.sl 114],false,[],24,false⟩),
 (48,⟨[.sl 67],false,[],24,false⟩),
 (49,⟨[.sl 9],false,[],24,false⟩),
 (52,⟨EP,true,[(0,9),(1,3),(2,3),(3,49)],56,false⟩),
 (53,⟨xx,true,[(0,9),(1,3),(2,3),(3,49)],56,false⟩),
 (54,⟨[.sl 53],false,[],24,false⟩),
 (55,⟨EN,true,[(0,3),(1,53),(5,54)],88,false⟩),
 (56,⟨Eb,true,[(0,3),(1,53),(5,54)],88,false⟩),
 (62,⟨[.sl 24],false,[],24,false⟩),
 (63,⟨[.sl 185],false,[],24,false⟩),
 (64,⟨EO,true,[(0,62),(1,63)],48,false⟩),
 (65,⟨BU,true,[(0,62),(1,63)],48,false⟩),
 (66,⟨EX,true,[(0,65),(2,3),(3,53),(7,29),(8,3)],144,false⟩),
 (67,⟨Dn,true,[(0,65),(2,3),(3,53),(7,29),(8,3)],144,false⟩),
 (76,⟨[.sl 209],false,[],24,false⟩),
 (77,⟨EV,true,[(0,35),(16,76)],200,false⟩),
 (78,⟨CV,true,[(0,35),(16,76)],200,false⟩),
 (96,⟨[.sl 177],false,[],24,false⟩),
 (97,⟨[.sl 144],false,[],24,false⟩),
 (103,⟨[.sl 29],false,[],24,false⟩),
 (113,⟨Et,true,[(0,49),(1,53)],80,false⟩),
 (114,⟨Eu,true,[(0,49),(1,53)],80,false⟩),
 (129,⟨EF,true,[(0,22),(1,3),(2,3)],40,false⟩),
 (130,⟨Ee,true,[(0,22),(1,3),(2,3)],40,false⟩),
 (133,⟨[.sl 139],false,[],24,false⟩),
 (138,⟨EE,true,[(0,24),(1,54)],48,false⟩),
 (139,⟨xd,true,[(0,24),(1,54)],48,false⟩),
 (143,⟨Ew,true,[(0,9),(1,3)],24,false⟩),
 (144,⟨Ek,true,[(0,9),(1,3)],24,true⟩),
 (165,⟨[.int .u64],false,[],8,false⟩),
 (176,⟨Er,true,[(0,133),(1,3)],32,false⟩),
 (177,⟨Aw,true,[(0,133),(1,3)],32,false⟩),
 (184,⟨Ef,true,[(0,78),(17,78),(34,78)],600,false⟩),
 (185,⟨B1,true,[(0,78),(17,78),(34,78)],600,false⟩),
 (189,⟨Ed,true,[(0,65),(2,4),(3,53),(7,4),(8,29)],144,false⟩),
 (190,⟨DB,true,[(0,65),(2,4),(3,53),(7,4),(8,29)],144,false⟩),
 (192,⟨[.sl 228],false,[],24,false⟩),
 (208,⟨En,true,[(0,3),(1,3)],16,false⟩),
 (209,⟨DR,true,[(0,3),(1,3)],16,true⟩),
 (223,⟨Ep,true,[(0,3),(1,29)],32,false⟩),
 (224,⟨AV,true,[(0,3),(1,29)],32,false⟩),
 (225,⟨Ez,true,[(0,3),(1,53),(5,53),(9,224),(11,224)],184,false⟩),
 (226,⟨Ci,true,[(0,3),(1,53),(5,53),(9,224),(11,224)],184,false⟩),
 (227,⟨EG,true,[(0,24),(1,4),(2,53),(6,224),(8,226)],304,false⟩),
 (228,⟨CY,true,[(0,24),(1,4),(2,53),(6,224),(8,226)],304,false⟩),
 (273,⟨[.int .u32],false,[],4,false⟩),
 (274,⟨[.int .u8],false,[],1,false⟩),
 (275,⟨[.int .u8],false,[],1,false⟩),
 (278,⟨[.int .i32],false,[],4,false⟩),
 (279,⟨[.int .i32],false,[],4,false⟩)]
abbrev Ev:Env:=cK mD
def aJ:eK Tryz.prog mD=true:=by kernel_rfl
def mix:Tryz.prog.follows .mixedOrders=true:=by kernel_rfl
abbrev cY:=Valid Tryz.prog Ev
namespace Z0
def F (x0:an):aD:=ret ((decide ((x0.length:Int)>1048576)):Bool)
def md (a0:List Int):Bool:=(decide ((a0.length:Int)>1048576))
def gd (a0:List Int):Prop:=True
def R:=RR gd md
def aq {a0}(h:gd a0):R (a0.map bh)=some (md a0):=dX h
def aV:=CN [pL 5] oB RT.dec R
def bH (a0)(hg:gd a0):F (a0.map bh)=ret (md a0):=by
 unfold F md
 rw [List.length_map]
def ah:cY 5 aV:=W1 6 F mix aJ bH .nil Tryz.func5
end Z0
namespace Z1
inductive Pt where
 | p0 (a:an) (b c:Int)
def pid:Pt->Nat
 | .p0 ..=>3
def cZ:Pt->List V
 | .p0 a b c=>[.sl none 5 a,.int .i64 b,.int .i64 c]
def eD:Pt->List aK
 | .p0 a b c=>[]
def step (J:Pt->aD):Pt->aD
 | .p0 a b c=>(cond (c<(a.length:Int)) (cond (c<4000) (m2 c (a.length:Int) (J (.p0 a (uL .i64 (i64.wrap ((i64.wrap ((i64.wrap (b*137))+(i64.wrap (iE a (toNat c)))))+11)) 1073741823) (i64.wrap (c+1))))) (ret ((a,0,b):an×Int×Int))) (ret ((a,0,b):an×Int×Int)))
def start (J:Pt->aD)(x0:an):aD:=J (.p0 x0 (i64.wrap (193017+(x0.length:Int))) 0)
def live:Nat->Live:=iD [(3,mN [0,3,4])]
abbrev cG:List K:=[.sl 5,aQ,aQ]
def pats:List fH:=[.rd (.sl 5)]
abbrev E:Env:={ T:=assoc mD,G:=cN [],nt:=32,M:=eL [],np:=0,mt:=false,I:=fV [] }
def step_eq (I:dK)(p:Pt):dP E live I (pid p) (bQ Tryz.f50) (jr (live (pid p)) (cZ p) (eD p)) (dG E Tryz.f50 (.uh cG))=step (fun q=>I (pid q) (cZ q) (eD q)) p:=by
 cases p<;>kernel_rfl
def start_eq (I:dK)(ls:List L):gU E live I (bQ Tryz.f50) (dS pats ls) (dG E Tryz.f50 (.uh cG))=start (fun q=>I (pid q) (cZ q) (eD q)) (fc ls):=by kernel_rfl
def run_eq (n:Nat)(ls:List L):eS E live Tryz.f50 (.uh cG) n (dS pats ls)=start (iter step n) (fc ls):=dM (id:=pid) (vs:=cZ) (hs:=eD) (step:=step) (start:=fun J=>start J (fc ls)) step_eq (fun I=>start_eq I ls) n
def gd (x0:an):Prop:=x0.length<=1048576
def post (x0:an)(y:an×Int×Int):Prop:=y.1=x0/\CI x0 y.2.1
def wp (x0:an)(hg:gd x0):∃n,Wp (start (iter step n) x0) (post x0):=by
 unfold gd at hg
 refine ⟨x0.length+2,jD (fun p=>match p with | .p0 a b c=>a=x0/\0<=c/\c<=x0.length) (fun p=>match p with | .p0 a b c=>(x0.length - c).toNat) (fun J p hI hJ=>?_) _ _ ⟨rfl,by omega,by omega⟩ (by show ((x0.length:Int) - 0).toNat<_;omega)⟩
 obtain ⟨a,b,c⟩:=p
 obtain ⟨rfl,h1,h2⟩:=hI
 have hf:∀b:Int,post a (a,0,b):=fun b=>⟨rfl,hg,Int.le_refl _,by show (0:Int)<=a.length;omega⟩
 refine wp_cond (fun c1=>wp_cond (fun c2=>?_) (fun c2=>wp_ret (hf b))) (fun c1=>wp_ret (hf b))
 have c1:=of_decide_eq_true c1
 have e:i64.wrap (c+1)=c+1:=wi _ (by omega)
 refine mS h1 c1 (hJ _ ⟨rfl,?_,?_⟩ ?_)
 ·show 0<=i64.wrap (c+1);omega
 ·show i64.wrap (c+1)<=_;omega
 ·show ((a.length:Int) - i64.wrap (c+1)).toNat<((a.length:Int) - c).toNat;omega
def R:(an)->Option (an×Int×Int):=RQ (fun n x=>start (iter step n) x) (fun x=>post x)
def cF {x0:an}{γ:Type}[RT γ]{k:(an×Int×Int)->aD}{Q:γ->Prop}(hg:gd x0)(hk:∀y,post x0 y->Wp (k y) Q):Wp (call (R x0) k) Q:=dY (wp x0 hg) hk
def acc (ls:List L):an:=(fc ls)
def aV:yp:=NC cG pats acc R
def ah:sA Tryz.prog Ev 50 aV:=VN (live:=live) (mt:=false) mix aJ .nil .nil .nil Tryz.func50 (by kernel_rfl) run_eq
def ic (_:Nat):fU:=BN Ev aV
def bq (n:Nat):dh Tryz.prog Ev n 50 (ic n):=xM ah
end Z1
namespace Z2
def F (x0:Int):aD:=ret ((⟨[[L.int x0]],1⟩:bl):bl)
def md (a0:Int):aM:=(⟨[a0],1⟩:aM)
def gd (a0:Int):Prop:=True
def R:=RR gd md
def aq {a0}(h:gd a0):R a0=some (aM.r (md a0)):=dX h
def aV:=CN [pI] (.agg f31) RT.dec R
def bH (a0)(hg:gd a0):F a0=ret (aM.r (md a0)):=by
 unfold F md
 try simp only [SS]
 all_goals exact fz
def ah:cY 145 aV:=W1 6 F mix aJ bH .nil Tryz.func145
end Z2
namespace Z3
def F (x0:an)(x1 x2:Int):aD:=(cond (x1<(x0.length:Int)) (m2 x1 (x0.length:Int) (ret ((Hl.mk,(i64.wrap (x1+1)),(i64.wrap ((i64.wrap (x2*6364136223846793005))+1442695040888963407)),(uL .i64 (i64.wrap ((uL .i64 (BT .i64 (Int.fdiv (i64.wrap ((i64.wrap (x2*6364136223846793005))+1442695040888963407)) (2^33)) (Int.fdiv (i64.wrap ((i64.wrap (x2*6364136223846793005))+1442695040888963407)) (2^47))) 255)+(i64.wrap (iE x0 (toNat x1))))) 255)):Hl×Int×Int×Int))) (ret ((Hl.mk,x1,(i64.wrap ((i64.wrap (x2*6364136223846793005))+1442695040888963407)),(uL .i64 (BT .i64 (Int.fdiv (i64.wrap ((i64.wrap (x2*6364136223846793005))+1442695040888963407)) (2^33)) (Int.fdiv (i64.wrap ((i64.wrap (x2*6364136223846793005))+1442695040888963407)) (2^47))) 255)):Hl×Int×Int×Int)))
abbrev cG:List K:=[.sl 5,aQ,aQ]
def pats:List (Option fH):=[none]
def res:RP:=.one (.rd (.int .i64))
abbrev E:Env:={ T:=assoc mD,G:=cN [],nt:=58,M:=eL [],np:=(nC cG),mt:=false,I:=fV [] }
def run_eq (n:Nat)(ls:List L):eS E (fun _=>[]) Tryz.f99 (.cur cG res.parts) n (gr cG pats ls)=F (fc ls) (cA 1 ls) (cA 2 ls):=by kernel_rfl
def gd (x0:an)(x1 x2:Int):Prop:=CI x0 x1
def post (x0:an)(x1 x2:Int)(y:Hl×Int×Int×Int):Prop:=CI x0 y.2.1/\0<=y.2.2.2/\y.2.2.2<=255
def wp (x0:an)(x1 x2:Int)(hg:gd x0 x1 x2):Wp (F x0 x1 x2) (post x0 x1 x2):=by
 obtain ⟨h1,h2,h3⟩:=hg
 unfold F
 refine wp_cond (fun c=>?_) (fun c=>?_)
 ·refine mS h2 (of_decide_eq_true c) (wp_ret ⟨⟨h1,?_,?_⟩,tQ _⟩)
  ·have:=of_decide_eq_true c;show 0<=i64.wrap (x1+1);rw [wi _ (by omega)];omega
  ·have:=of_decide_eq_true c;show i64.wrap (x1+1)<=_;rw [wi _ (by omega)];omega
 ·exact wp_ret ⟨⟨h1,h2,h3⟩,tQ _⟩
def R:(an×Int×Int)->Option (Hl×Int×Int×Int):=RQ (fun _ x=>F x.1 x.2.1 x.2.2) (fun x=>post x.1 x.2.1 x.2.2)
def cF {x0:an}{x1 x2:Int}{γ:Type}[RT γ]{k:(Hl×Int×Int×Int)->aD}{Q:γ->Prop}(hg:gd x0 x1 x2)(hk:∀y,post x0 x1 x2 y->Wp (k y) Q):Wp (call (R (x0,x1,x2)) k) Q:=dY ⟨0,wp x0 x1 x2 hg⟩ hk
def acc (ls:List L):an×Int×Int:=((fc ls),(cA 1 ls),(cA 2 ls))
def aV:iL:=CC cG pats res acc R
def ah:fG Tryz.prog Ev 99 aV:=VC (live:=(fun _=>[])) (mt:=false) mix aJ .nil .nil .nil Tryz.func99 (by kernel_rfl) run_eq
def ic (_:Nat):fU:=iQ Ev aV
def bq (n:Nat):dh Tryz.prog Ev n 99 (ic n):=dF ah
end Z3
namespace Z4
def F (x0:an)(x1 x2 x3:Int):aD:=(cond (x3<=0) (ret ((Hl.mk,x1,x2,0):Hl×Int×Int×Int)) (cond (x3<=256) (call (Z3.R (x0,x1,x2)) fun v1=>(cond (x3=0) none (ret ((Hl.mk,v1.2.1,v1.2.2.1,(Int.tmod v1.2.2.2 x3)):Hl×Int×Int×Int)))) (call (Z3.R (x0,x1,x2)) fun v2=>(call (Z3.R (x0,v2.2.1,v2.2.2.1)) fun v3=>(call (Z3.R (x0,v3.2.1,v3.2.2.1)) fun v4=>(cond (x3=0) none (ret ((Hl.mk,v4.2.1,v4.2.2.1,(Int.tmod (i64.wrap ((i64.wrap ((i64.wrap (v2.2.2.2*65536))+(i64.wrap (v3.2.2.2*256))))+v4.2.2.2)) x3)):Hl×Int×Int×Int))))))))
abbrev cG:List K:=[.sl 5,aQ,aQ]
def pats:List (Option fH):=[none,some (.rd (.int .i64))]
def res:RP:=.one (.rd (.int .i64))
abbrev E:Env:={ T:=assoc mD,G:=cN [],nt:=31,M:=eL [],np:=(nC cG),mt:=false,I:=fV [(99,Z3.ic (nC cG))] }
def run_eq (n:Nat)(ls:List L):eS E (fun _=>[]) Tryz.f52 (.cur cG res.parts) n (gr cG pats ls)=F (fc ls) (cA 1 ls) (cA 2 ls) (cA 3 ls):=by kernel_rfl
def gd (x0:an)(x1 x2 x3:Int):Prop:=CI x0 x1
def post (x0:an)(x1 x2 x3:Int)(y:Hl×Int×Int×Int):Prop:=CI x0 y.2.1/\(x3<=0->y.2.2.2=0)/\(0<x3->0<=y.2.2.2/\y.2.2.2<x3)
def wp (x0:an)(x1 x2 x3:Int)(hg:gd x0 x1 x2 x3):Wp (F x0 x1 x2 x3) (post x0 x1 x2 x3):=by
 unfold F
 refine wp_cond (fun c=>wp_ret ⟨hg,fun _=>rfl,fun h=>?_⟩) (fun c=>?_)
 ·have:=of_decide_eq_true c;omega
 have c:=of_decide_eq_false c
 refine wp_cond (fun c2=>?_) (fun c2=>?_)
 ·refine Z3.cF hg (fun v ⟨hv,h1,h2⟩=>wp_cond (fun c3=>absurd (of_decide_eq_true c3) (by omega)) (fun c3=>wp_ret ⟨hv,fun h=>absurd h c,fun h=>rD h1 h⟩))
 ·refine Z3.cF hg (fun v ⟨hv,h1,h2⟩=>Z3.cF hv (fun v' ⟨hv',h1',h2'⟩=>Z3.cF hv' (fun w ⟨hw,h1'',h2''⟩=>wp_cond (fun c3=>absurd (of_decide_eq_true c3) (by omega)) (fun c3=>wp_ret ⟨hw,fun h=>absurd h c,fun h=>rD ?_ h⟩))))
  rw [wi (v.2.2.2*65536) (by omega),wi (v'.2.2.2*256) (by omega),wi (v.2.2.2*65536+v'.2.2.2*256) (by omega),wi _ (by omega)]
  omega
def R:(an×Int×Int×Int)->Option (Hl×Int×Int×Int):=RQ (fun _ x=>F x.1 x.2.1 x.2.2.1 x.2.2.2) (fun x=>post x.1 x.2.1 x.2.2.1 x.2.2.2)
def kO {x0:an}{x1 x2 x3:Int}(hg:gd x0 x1 x2 x3):∃y,R (x0,x1,x2,x3)=some y/\post x0 x1 x2 x3 y:=pU ⟨0,wp x0 x1 x2 x3 hg⟩
def cF {x0:an}{x1 x2 x3:Int}{γ:Type}[RT γ]{k:(Hl×Int×Int×Int)->aD}{Q:γ->Prop}(hg:gd x0 x1 x2 x3)(hk:∀y,post x0 x1 x2 x3 y->Wp (k y) Q):Wp (call (R (x0,x1,x2,x3)) k) Q:=dY ⟨0,wp x0 x1 x2 x3 hg⟩ hk
def acc (ls:List L):an×Int×Int×Int:=((fc ls),(cA 1 ls),(cA 2 ls),(cA 3 ls))
def aV:iL:=CC cG pats res acc R
def ah:fG Tryz.prog Ev 52 aV:=VC (live:=(fun _=>[])) (mt:=false) mix aJ .nil .nil (.cons (Z3.bq (nC cG)) .nil) Tryz.func52 (by kernel_rfl) run_eq
def ic (_:Nat):fU:=iQ Ev aV
def bq (n:Nat):dh Tryz.prog Ev n 52 (ic n):=dF ah
end Z4
namespace Z5
def F (x0:an)(x1 x2:Int)(x3:an):aD:=(call (Z4.R (x0,x1,x2,(x3.length:Int))) fun v1=>(cX ((0:Int)<=v1.2.2.2) (cX (v1.2.2.2<(x3.length:Int)) (ret ((Hl.mk,v1.2.1,v1.2.2.1,(tw x3 (toNat v1.2.2.2))):Hl×Int×Int×av)))))
abbrev cG:List K:=[.sl 5,aQ,aQ]
def pats:List (Option fH):=[none,some (.rd (.sl 9))]
def res:RP:=.one (.rd (.str))
abbrev E:Env:={ T:=assoc mD,G:=cN [],nt:=12,M:=eL [],np:=(nC cG),mt:=false,I:=fV [(52,Z4.ic (nC cG))] }
def run_eq (n:Nat)(ls:List L):eS E (fun _=>[]) Tryz.f149 (.cur cG res.parts) n (gr cG pats ls)=F (fc ls) (cA 1 ls) (cA 2 ls) (gS 3 ls):=by kernel_rfl
def gd (x0:an)(x1 x2:Int)(x3:an):Prop:=CI x0 x1/\0<x3.length
def post (x0:an)(x1 x2:Int)(x3:an)(y:Hl×Int×Int×av):Prop:=CI x0 y.2.1/\∃i,i<x3.length/\y.2.2.2=tw x3 i
def wp (x0:an)(x1 x2:Int)(x3:an)(hg:gd x0 x1 x2 x3):Wp (F x0 x1 x2 x3) (post x0 x1 x2 x3):=by
 unfold F
 refine Z4.cF hg.1 (fun v ⟨hv,_,h⟩=>?_)
 obtain ⟨h1,h2⟩:=h (by have:=hg.2;omega)
 exact eX (decide_eq_true h1) (eX (decide_eq_true h2) (wp_ret ⟨hv,_,by omega,rfl⟩))
def R:(an×Int×Int×an)->Option (Hl×Int×Int×av):=RQ (fun _ x=>F x.1 x.2.1 x.2.2.1 x.2.2.2) (fun x=>post x.1 x.2.1 x.2.2.1 x.2.2.2)
def cF {x0:an}{x1 x2:Int}{x3:an}{γ:Type}[RT γ]{k:(Hl×Int×Int×av)->aD}{Q:γ->Prop}(hg:gd x0 x1 x2 x3)(hk:∀y,post x0 x1 x2 x3 y->Wp (k y) Q):Wp (call (R (x0,x1,x2,x3)) k) Q:=dY ⟨0,wp x0 x1 x2 x3 hg⟩ hk
def acc (ls:List L):an×Int×Int×an:=((fc ls),(cA 1 ls),(cA 2 ls),(gS 3 ls))
def aV:iL:=CC cG pats res acc R
def ah:fG Tryz.prog Ev 149 aV:=VC (live:=(fun _=>[])) (mt:=false) mix aJ .nil .nil (.cons (Z4.bq (nC cG)) .nil) Tryz.func149 (by kernel_rfl) run_eq
def ic (_:Nat):fU:=iQ Ev aV
def bq (n:Nat):dh Tryz.prog Ev n 149 (ic n):=dF ah
end Z5
namespace Z6
def F (x0:an)(x1 x2:Int):aD:=(call (Z5.R (x0,x1,x2,[[L.str (⟨#[97,110,110]⟩:av)],[L.str (⟨#[98,111,98]⟩:av)],[L.str (⟨#[98,97,110,107]⟩:av)],[L.str (⟨#[115,104,111,112]⟩:av)],[L.str (⟨#[115,104,48,112]⟩:av)],[L.str (⟨#[53,104,111,112]⟩:av)],[L.str (⟨#[109,97,105,108]⟩:av)],[L.str (⟨#[109,97,45,105,108]⟩:av)],[L.str (⟨#[97]⟩:av)]])) fun v1=>ret ((Hl.mk,v1.2.1,v1.2.2.1,v1.2.2.2):Hl×Int×Int×av))
abbrev cG:List K:=[.sl 5,aQ,aQ]
def pats:List (Option fH):=[none]
def res:RP:=.one (.rd (.str))
abbrev E:Env:={ T:=assoc mD,G:=cN [],nt:=6,M:=eL [],np:=(nC cG),mt:=false,I:=fV [(149,Z5.ic (nC cG))] }
def run_eq (n:Nat)(ls:List L):eS E (fun _=>[]) Tryz.f108 (.cur cG res.parts) n (gr cG pats ls)=F (fc ls) (cA 1 ls) (cA 2 ls):=by kernel_rfl
def gd (x0:an)(x1 x2:Int):Prop:=CI x0 x1
def post (x0:an)(x1 x2:Int)(y:Hl×Int×Int×av):Prop:=CI x0 y.2.1/\y.2.2.2.size<=16
def wp (x0:an)(x1 x2:Int)(hg:gd x0 x1 x2):Wp (F x0 x1 x2) (post x0 x1 x2):=by
 unfold F
 refine Z5.cF ⟨hg,by show 0<9;decide⟩ (fun v ⟨hv,i,hi,e⟩=>wp_ret ⟨hv,?_⟩)
 show v.2.2.2.size<=16
 rw [e]
 exact mP rfl hi
def R:(an×Int×Int)->Option (Hl×Int×Int×av):=RQ (fun _ x=>F x.1 x.2.1 x.2.2) (fun x=>post x.1 x.2.1 x.2.2)
def cF {x0:an}{x1 x2:Int}{γ:Type}[RT γ]{k:(Hl×Int×Int×av)->aD}{Q:γ->Prop}(hg:gd x0 x1 x2)(hk:∀y,post x0 x1 x2 y->Wp (k y) Q):Wp (call (R (x0,x1,x2)) k) Q:=dY ⟨0,wp x0 x1 x2 hg⟩ hk
def acc (ls:List L):an×Int×Int:=((fc ls),(cA 1 ls),(cA 2 ls))
def aV:iL:=CC cG pats res acc R
def ah:fG Tryz.prog Ev 108 aV:=VC (live:=(fun _=>[])) (mt:=false) mix aJ .nil .nil (.cons (Z5.bq (nC cG)) .nil) Tryz.func108 (by kernel_rfl) run_eq
def ic (_:Nat):fU:=iQ Ev aV
def bq (n:Nat):dh Tryz.prog Ev n 108 (ic n):=dF ah
end Z6
namespace Z7
def F (x0:av)(x1:Int):aD:=ret ((⟨x0,1,x1,[]⟩:aC):aC)
def md (a0:av)(a1:Int):aa:=(⟨a0,1,a1,[]⟩:aa)
def gd (a0:av)(a1:Int):Prop:=True
def R:=eA gd md
def aq {a0 a1}(h:gd a0 a1):R (a0,a1)=some (aa.r (md a0 a1)):=eB h
def aV:=CN [pS,pI] (.agg f53) RT.dec R
def bH (a0)(a1)(hg:gd a0 a1):F a0 a1=ret (aa.r (md a0 a1)):=by
 unfold F md
 try simp only [SS]
 all_goals exact fz
def ah:cY 112 aV:=W2 8 F mix aJ bH .nil Tryz.func112
end Z7
namespace Z8
def F (x0 x1:av):aD:=(cond (Op.bytesLess x0.toList x1.toList) sP (cond (!((Op.bytesLess x0.toList x1.toList)||(x0.toList==x1.toList))) (ret (1:Int)) (ret (0:Int))))
def md (a0 a1:av):Int:=(cond (Op.bytesLess a0.toList a1.toList) ((-1):Int) (cond (!((Op.bytesLess a0.toList a1.toList)||(a0.toList==a1.toList))) (1:Int) (0:Int)))
def gd (a0 a1:av):Prop:=True
def R:=eA gd md
def aq {a0 a1}(h:gd a0 a1):R (a0,a1)=some (md a0 a1):=eB h
def aV:=CN [pS,pS] oI RT.dec R
def bH (a0)(a1)(hg:gd a0 a1):F a0 a1=ret (md a0 a1):=by
 unfold F md
 try simp only [SS]
 refine au ret (fun _=>rfl) (fun c1=>?_)
 refine au ret (fun _=>rfl) (fun _=>rfl)
def ah:cY 187 aV:=W2 13 F mix aJ bH .nil Tryz.func187
end Z8
namespace Z9
def F (x0:an):aD:=(cX (fu ((x0.length:Int)*16)) (ret (x0:an)))
def md (a0:List av):List av:=a0
def gd (a0:List av):Prop:=(bn (2^21) (fun y:av=>y.size<=(2^21)) a0)
def R:=RR gd md
def aq {a0}(h:gd a0):R (a0.map bY)=some (a0.map bY):=dX h
def aV:=CN [pL 9] (oL 9) RT.dec R
def bH (a0)(hg:gd a0):F (a0.map bY)=ret ((md a0).map bY):=by
 unfold gd at hg
 have H0:=hg
 unfold F md
 try simp only [SS]
 refine aW (have:=(H0).1;lm) ?_
 all_goals exact fz
def ah:cY 81 aV:=W1 6 F mix aJ bH .nil Tryz.func81
end Z9
namespace Z10
def F (x0:aC):aD:=(call (Z9.R x0.bg) fun v1=>ret ((⟨x0.bk,x0.bp,x0.bJ,v1⟩:aC):aC))
def md (a0:aa):aa:=a0
def gd (a0:aa):Prop:=(aa.Sm (2^21) a0)
def R:=RR gd md
def aq {a0}(h:gd a0):R (aa.r a0)=some (aa.r a0):=dX h
def aV:=CN [.agg xx] (.agg f53) RT.dec R
def bH (a0)(hg:gd a0):F (aa.r a0)=ret (aa.r (md a0)):=by
 unfold gd at hg
 have H0:=hg
 unfold F md
 try simp only [SS]
 refine ct (Z9.aq H0.2) ?_
 try simp only [SS]
 all_goals exact fz
def ah:cY 70 aV:=W1 13 F mix aJ bH (dV Z9.ah) Tryz.func70
end Z10
namespace Z11
def F (x0 x1 x2:Int):aD:=(cond (x0>=x1) (ret ((decide (x0<=x2)):Bool)) aS)
def md (a0 a1 a2:Int):Bool:=(cond (a0>=a1) ((decide (a0<=a2)):Bool) (false:Bool))
def gd (a0 a1 a2:Int):Prop:=True
def R:=ot gd md
def aq {a0 a1 a2}(h:gd a0 a1 a2):R (a0,a1,a2)=some (md a0 a1 a2):=nZ h
def aV:=CN [pI,pI,pI] oB RT.dec R
def bH (a0)(a1)(a2)(hg:gd a0 a1 a2):F a0 a1 a2=ret (md a0 a1 a2):=by
 unfold F md
 try simp only [SS]
 refine au ret (fun c1=>?_) (fun _=>rfl)
 all_goals exact fz
def ah:cY 41 aV:=W3 15 F mix aJ bH .nil Tryz.func41
end Z11
namespace Z12
inductive Pt where
 | p0 (a:av) (b:Int)
def cZ:Pt->List V
 | .p0 a b=>[.str a,.int .i64 b]
def step (J:Pt->aD):Pt->aD
 | .p0 a b=>(cond (b<(a.size:Int)) (m2 b (a.size:Int) (cond ((dZ a (toNat b))<97) (m2 b (a.size:Int) (cond ((dZ a (toNat b))<48) (m2 b (a.size:Int) (cond ((dZ a (toNat b)) != 45) aS (J (.p0 a (i64.wrap (b+1)))))) (m2 b (a.size:Int) (cond ((dZ a (toNat b))>57) (m2 b (a.size:Int) (cond ((dZ a (toNat b)) != 45) aS (J (.p0 a (i64.wrap (b+1)))))) (J (.p0 a (i64.wrap (b+1)))))))) (m2 b (a.size:Int) (cond ((dZ a (toNat b))>122) (m2 b (a.size:Int) (cond ((dZ a (toNat b))<48) (m2 b (a.size:Int) (cond ((dZ a (toNat b)) != 45) aS (J (.p0 a (i64.wrap (b+1)))))) (m2 b (a.size:Int) (cond ((dZ a (toNat b))>57) (m2 b (a.size:Int) (cond ((dZ a (toNat b)) != 45) aS (J (.p0 a (i64.wrap (b+1)))))) (J (.p0 a (i64.wrap (b+1)))))))) (J (.p0 a (i64.wrap (b+1)))))))) ff)
def start (J:Pt->aD)(x0:av):aD:=(call (Z11.R ((x0.size:Int),1,8)) fun v1=>(cond (!v1) aS (cX ((0:Int)<(x0.size:Int)) (cond ((dZ x0 0)==45) aS (cX ((0:Int)<=(i64.wrap ((x0.size:Int) - 1))) (cX ((i64.wrap ((x0.size:Int) - 1))<(x0.size:Int)) (cond ((dZ x0 (toNat (i64.wrap ((x0.size:Int) - 1))))==45) aS (J (.p0 x0 0)))))))))
def live:Nat->Live:=iD [(4,mN [0,3])]
def md (a0:av):Bool:=(bif (!(Z11.md (a0.size:Int) 1 8)) then (false:Bool) else (bif ((dZ a0 0)==45) then (false:Bool) else (bif ((dZ a0 (toNat (i64.wrap ((a0.size:Int) - 1))))==45) then (false:Bool) else (eW (S:=Unit) (β:=Bool) (fun (i4:Nat) (s6:Unit)=>(cond ((dZ a0 i4)<97) (cond ((dZ a0 i4)<48) (cond ((dZ a0 i4) != 45) (.inr (false:Bool)) (.inl ())) (cond ((dZ a0 i4)>57) (cond ((dZ a0 i4) != 45) (.inr (false:Bool)) (.inl ())) (.inl ()))) (cond ((dZ a0 i4)>122) (cond ((dZ a0 i4)<48) (cond ((dZ a0 i4) != 45) (.inr (false:Bool)) (.inl ())) (cond ((dZ a0 i4)>57) (cond ((dZ a0 i4) != 45) (.inr (false:Bool)) (.inl ())) (.inl ()))) (.inl ())))) (fun (s6:Unit)=>(true:Bool)) a0.size 0 ()))))
def gd (a0:av):Prop:=(a0.size<=(2^22))
def R:=RR gd md
def aq {a0}(h:gd a0):R a0=some (md a0):=dX h
def aV:=CN [pS] oB RT.dec R
def bH (a0)(hg:gd a0):∃n,start (iter step n) a0=ret (md a0):=by
 unfold gd at hg
 have H0:=hg
 unfold start md
 try simp only [SS]
 refine cx (Z11.aq trivial) ?_
 refine iG ret (fun _=>⟨0,rfl⟩) (fun c1=>?_)
 have dc1:=c1
 try simp only [DC] at dc1
 have Dc1:=c1
 try simp [Z11.md] at Dc1
 refine fJ (have:=H0;dt) ?_
 refine iG ret (fun _=>⟨0,rfl⟩) (fun c2=>?_)
 have dc2:=c2
 try simp only [DC] at dc2
 refine fJ (have:=H0;dt) ?_
 refine fJ (have:=H0;dt) ?_
 refine iG ret (fun _=>⟨0,rfl⟩) (fun c3=>?_)
 have dc3:=c3
 try simp only [DC] at dc3
 have Bh5:a0.size<=maxLen:=(by
   have:=H0
   try simp only [maxLen] at *
   omega)
 refine dW (p:=Pt.p0 a0 0) fz ?_
 refine bV (pt:=fun (i4:Nat) (s6:Unit)=>Pt.p0 a0 (i4:Int)) (s:=(():Unit)) (out:=ret) (fun _ _=>True) (fun J i4 s6 h5 hih5=>?_) (fun s6 hih5=>?_) trivial
 ·simp only [step,SS]
  have bb_:=Bh5
  simp only [maxLen] at bb_
  have:=H0
  refine bf.yes (by apply decide_eq_true;omega) ?_
  refine bf.yes bA ?_
  refine bf.yes (bU h5) ?_
  refine bf.bif (fun c7=>?_) (fun c7=>?_)
  ·refine bf.yes bA ?_
   refine bf.yes (bU h5) ?_
   refine bf.bif (fun c8=>?_) (fun c8=>?_)
   ·refine bf.yes bA ?_
    refine bf.yes (bU h5) ?_
    refine bf.bif (fun _=>bf.inr rfl) (fun c9=>?_)
    refine bf.inl trivial ?_
    rw [aR h5 Bh5]
    all_goals exact fz
   ·refine bf.yes bA ?_
    refine bf.yes (bU h5) ?_
    refine bf.bif (fun c10=>?_) (fun c10=>?_)
    ·refine bf.yes bA ?_
     refine bf.yes (bU h5) ?_
     refine bf.bif (fun _=>bf.inr rfl) (fun c11=>?_)
     refine bf.inl trivial ?_
     rw [aR h5 Bh5]
     all_goals exact fz
    ·refine bf.inl trivial ?_
     rw [aR h5 Bh5]
     all_goals exact fz
  ·refine bf.yes bA ?_
   refine bf.yes (bU h5) ?_
   refine bf.bif (fun c12=>?_) (fun c12=>?_)
   ·refine bf.yes bA ?_
    refine bf.yes (bU h5) ?_
    refine bf.bif (fun c13=>?_) (fun c13=>?_)
    ·refine bf.yes bA ?_
     refine bf.yes (bU h5) ?_
     refine bf.bif (fun _=>bf.inr rfl) (fun c14=>?_)
     refine bf.inl trivial ?_
     rw [aR h5 Bh5]
     all_goals exact fz
    ·refine bf.yes bA ?_
     refine bf.yes (bU h5) ?_
     refine bf.bif (fun c15=>?_) (fun c15=>?_)
     ·refine bf.yes bA ?_
      refine bf.yes (bU h5) ?_
      refine bf.bif (fun _=>bf.inr rfl) (fun c16=>?_)
      refine bf.inl trivial ?_
      rw [aR h5 Bh5]
      all_goals exact fz
     ·refine bf.inl trivial ?_
      rw [aR h5 Bh5]
      all_goals exact fz
   ·refine bf.inl trivial ?_
    rw [aR h5 Bh5]
    all_goals exact fz
 ·simp only [step,SS]
  have:=H0
  refine dQ (by apply decide_eq_false;omega) ?_
  refine ⟨0,?_⟩
  all_goals exact fz
def ah:cY 162 aV:=L1 55 (fun _=>4) cZ (fun _=>[]) live step start mix aJ bH (dV Z11.ah) Tryz.func162
def tr {a0:av}(h:md a0=true):1<=a0.size/\a0.size<=8:=by
 unfold md at h
 cases e:Z11.md (a0.size:Int) 1 8
 ·rw [e] at h;cases h
 ·simp [Z11.md] at e;omega
end Z12
namespace Z13
inductive Pt where
 | p0 (a:an) (b:Int)
def cZ:Pt->List V
 | .p0 a b=>[.sl none 9 a,.int .i64 b]
def step (J:Pt->aD):Pt->aD
 | .p0 a b=>(cond (b<(a.length:Int)) (m2 b (a.length:Int) (call (Z12.R (tw a (toNat b))) fun v1=>(cond (!v1) aS (J (.p0 a (i64.wrap (b+1))))))) (call (Z11.R ((a.length:Int),1,4)) fun v2=>ret (v2:Bool)))
def start (J:Pt->aD)(x0:an):aD:=J (.p0 x0 0)
def live:Nat->Live:=iD [(2,mN [0,3])]
def md (a0:List av):Bool:=(eI (S:=Unit) (β:=Bool) (fun (y1:av) (s3:Unit)=>(cond (!(Z12.md y1)) (.inr (false:Bool)) (.inl ()))) (fun (s3:Unit)=>((Z11.md (a0.length:Int) 1 4):Bool)) a0 ())
def gd (a0:List av):Prop:=(bn (2^22) (fun y:av=>y.size<=(2^22)) a0)
def R:=RR gd md
def aq {a0}(h:gd a0):R (a0.map bY)=some (md a0):=dX h
def aV:=CN [pL 9] oB RT.dec R
def bH (a0)(hg:gd a0):∃n,start (iter step n) (a0.map bY)=ret (md a0):=by
 unfold gd at hg
 have H0:=hg
 unfold start md
 try simp only [SS]
 have Bh2:a0.length<=maxLen:=(by
   have:=(H0).1
   try simp only [maxLen] at *
   omega)
 refine ex_eq (out:=ret) (eo (z:=⟨#[]⟩)) ?_
 refine dW (p:=Pt.p0 (a0.map bY) 0) fz ?_
 refine bV (pt:=fun (i1:Nat) (s3:Unit)=>Pt.p0 (a0.map bY) (i1:Int)) (s:=(():Unit)) (out:=ret) (fun _ _=>True) (fun J i1 s3 h2 hih2=>?_) (fun s3 hih2=>?_) trivial
 ·simp only [step,SS]
  have bb_:=Bh2
  simp only [maxLen] at bb_
  have:=(H0).1
  refine bf.yes (by apply decide_eq_true;omega) ?_
  refine bf.yes bA ?_
  refine bf.yes (bU h2) ?_
  refine cr (Z12.aq (bn.getD (z:=⟨#[]⟩) H0 h2)) ?_
  refine bf.bif (fun _=>bf.inr rfl) (fun c4=>?_)
  refine bf.inl trivial ?_
  rw [aR h2 Bh2]
  all_goals exact fz
 ·simp only [step,SS]
  have:=(H0).1
  refine dQ (by apply decide_eq_false;omega) ?_
  refine cx (Z11.aq trivial) ?_
  refine ⟨0,?_⟩
  all_goals exact fz
def ah:cY 125 aV:=L1 19 (fun _=>2) cZ (fun _=>[]) live step start mix aJ bH (gH Z12.ah Z11.ah) Tryz.func125
def tr {a0:List av}(h:md a0=true):(1<=a0.length/\a0.length<=4)/\∀x∈a0,x.size<=8:=by
 have e:=nk (p:=fun y=>!(Z12.md y)) (b:=false) (c:=Z11.md (a0.length:Int) 1 4) (xs:=a0) (s:=())
 rw [show md a0=_ from e] at h
 cases ha:a0.any (fun y=>!(Z12.md y))<;>rw [ha] at h
 ·have h2:Z11.md (a0.length:Int) 1 4=true:=h
  simp [Z11.md] at h2
  refine ⟨by omega,fun x hx=>?_⟩
  rw [List.any_eq_false] at ha
  have:=ha x hx
  exact (Z12.tr (by simpa using this)).2
 ·cases h
def tl {x:av}{xs:List av}(h:md (x::xs)=true)(hx:¬xs.length=0):md xs=true:=by
 have key:∀a:List av,md a=bif a.any (fun y=>!(Z12.md y)) then false else Z11.md (a.length:Int) 1 4:=fun a=>nk (p:=fun y=>!(Z12.md y)) (b:=false) (c:=Z11.md (a.length:Int) 1 4) (xs:=a) (s:=())
 have t:=tr h
 simp only [List.length_cons] at t
 rw [key] at h ⊢
 rw [List.any_cons] at h
 cases h1:xs.any (fun y=>!(Z12.md y)) with
 | true=>rw [h1,Bool.or_true] at h;cases h
 | false=>simp [Z11.md];omega
end Z13
namespace Z14
def F (x0:aC):aD:=(cond (x0.bp==1) (call (Z12.R x0.bk) fun v1=>(cond v1 (call (Z11.R (x0.bJ,0,999999)) fun v2=>(cond v2 (ret (((x0.bg.length:Int)==0):Bool)) aS)) aS)) (cond (x0.bp==2) (call (Z12.R x0.bk) fun v3=>(cond v3 (call (Z11.R (x0.bJ,0,2147483646)) fun v4=>(cond v4 (ret (((x0.bg.length:Int)==0):Bool)) aS)) aS)) (cond (x0.bp==3) (call (Z12.R x0.bk) fun v5=>(cond v5 (call (Z11.R (x0.bJ,0,2147483646)) fun v6=>(cond v6 (call (Z13.R x0.bg) fun v7=>ret (v7:Bool)) aS)) aS)) aS)))
def md (a0:aa):Bool:=(cond (a0.bp==1) (cond (Z12.md a0.bk) (cond (Z11.md a0.bJ 0 999999) (((a0.bg.length:Int)==0):Bool) (false:Bool)) (false:Bool)) (cond (a0.bp==2) (cond (Z12.md a0.bk) (cond (Z11.md a0.bJ 0 2147483646) (((a0.bg.length:Int)==0):Bool) (false:Bool)) (false:Bool)) (cond (a0.bp==3) (cond (Z12.md a0.bk) (cond (Z11.md a0.bJ 0 2147483646) ((Z13.md a0.bg):Bool) (false:Bool)) (false:Bool)) (false:Bool))))
def gd (a0:aa):Prop:=(aa.Sm (2^21) a0)
def R:=RR gd md
def aq {a0}(h:gd a0):R (aa.r a0)=some (md a0):=dX h
def aV:=CN [.agg xx] oB RT.dec R
def bH (a0)(hg:gd a0):F (aa.r a0)=ret (md a0):=by
 unfold gd at hg
 have H0:=hg
 unfold F md
 try simp only [SS]
 refine au ret (fun c1=>?_) (fun c1=>?_)
 ·refine ct (Z12.aq (le_trans H0.1 (by decide))) ?_
  refine au ret (fun c2=>?_) (fun _=>rfl)
  refine ct (Z11.aq trivial) ?_
  refine au ret (fun c3=>?_) (fun _=>rfl)
  all_goals exact fz
 ·refine au ret (fun c4=>?_) (fun c4=>?_)
  ·refine ct (Z12.aq (le_trans H0.1 (by decide))) ?_
   refine au ret (fun c5=>?_) (fun _=>rfl)
   refine ct (Z11.aq trivial) ?_
   refine au ret (fun c6=>?_) (fun _=>rfl)
   all_goals exact fz
  ·refine au ret (fun c7=>?_) (fun _=>rfl)
   refine ct (Z12.aq (le_trans H0.1 (by decide))) ?_
   refine au ret (fun c8=>?_) (fun _=>rfl)
   refine ct (Z11.aq trivial) ?_
   refine au ret (fun c9=>?_) (fun _=>rfl)
   refine ct (Z13.aq (H0.2.mono (by decide) (fun x hx=>(le_trans hx (by decide))))) ?_
   all_goals exact fz
def ah:cY 126 aV:=W1 52 F mix aJ bH (nD Z12.ah Z11.ah Z13.ah) Tryz.func126
end Z14
namespace Z15
inductive Pt where
 | p0 (a:an) (b:Int)
def cZ:Pt->List V
 | .p0 a b=>[.sl none 53 a,.int .i64 b]
def step (J:Pt->aD):Pt->aD
 | .p0 a b=>(cond (b<(a.length:Int)) (m2 b (a.length:Int) (call (Z14.R (aC.at a (toNat b))) fun v1=>(cond (!v1) aS (cond (b>0) (cX ((0:Int)<=(i64.wrap (b - 1))) (cX ((i64.wrap (b - 1))<(a.length:Int)) (m2 b (a.length:Int) (call (Z8.R ((aC.at a (toNat (i64.wrap (b - 1)))).bk,(aC.at a (toNat b)).bk)) fun v2=>(cond (v2 != (-1)) aS (J (.p0 a (i64.wrap (b+1))))))))) (J (.p0 a (i64.wrap (b+1)))))))) (ret ((decide ((a.length:Int)<=12)):Bool)))
def start (J:Pt->aD)(x0:an):aD:=J (.p0 x0 0)
def live:Nat->Live:=iD [(2,mN [0,3])]
def md (a0:List aa):Bool:=(eP (S:=Unit) (β:=Bool) (fun (i1:Nat) (y1:aa) (s3:Unit)=>(cond (!(Z14.md y1)) (.inr (false:Bool)) (cond ((i1:Int)>0) (cond ((Z8.md ((a0.getD (toNat (i64.wrap ((i1:Int) - 1))) aa.zero).bk) (y1.bk)) != (-1)) (.inr (false:Bool)) (.inl ())) (.inl ())))) (fun (s3:Unit)=>((decide ((a0.length:Int)<=12)):Bool)) 0 a0 ())
def gd (a0:List aa):Prop:=(bn (2^21) (fun y:aa=>aa.Sm (2^21) y) a0)
def R:=RR gd md
def aq {a0}(h:gd a0):R (a0.map aa.row)=some (md a0):=dX h
def aV:=CN [pL 53] oB RT.dec R
def bH (a0)(hg:gd a0):∃n,start (iter step n) (a0.map aa.row)=ret (md a0):=by
 unfold gd at hg
 have H0:=hg
 unfold start md
 try simp only [SS]
 have Bh2:a0.length<=maxLen:=(by
   have:=(H0).1
   try simp only [maxLen] at *
   omega)
 refine ex_eq (out:=ret) (dD (z:=aa.zero)) ?_
 refine dW (p:=Pt.p0 (a0.map aa.row) 0) fz ?_
 refine bV (pt:=fun (i1:Nat) (s3:Unit)=>Pt.p0 (a0.map aa.row) (i1:Int)) (s:=(():Unit)) (out:=ret) (fun _ _=>True) (fun J i1 s3 h2 hih2=>?_) (fun s3 hih2=>?_) trivial
 ·simp only [step,SS]
  have bb_:=Bh2
  simp only [maxLen] at bb_
  have:=(H0).1
  refine bf.yes (by apply decide_eq_true;omega) ?_
  refine bf.yes bA ?_
  refine bf.yes (bU h2) ?_
  refine cr (Z14.aq (bn.getD (z:=aa.zero) H0 h2)) ?_
  refine bf.bif (fun _=>bf.inr rfl) (fun c4=>?_)
  have dc4:=c4
  try simp only [DC] at dc4
  refine bf.bif (fun c5=>?_) (fun c5=>?_)
  ·have dc5:=c5
   try simp only [DC] at dc5
   refine bf.yes dt ?_
   refine bf.yes (have:=(H0).1;dt) ?_
   refine bf.yes bA ?_
   refine bf.yes (bU h2) ?_
   refine cr (Z8.aq trivial) ?_
   refine bf.bif (fun _=>bf.inr rfl) (fun c6=>?_)
   refine bf.inl trivial ?_
   rw [aR h2 Bh2]
   all_goals exact fz
  ·refine bf.inl trivial ?_
   rw [aR h2 Bh2]
   all_goals exact fz
 ·simp only [step,SS]
  have:=(H0).1
  refine dQ (by apply decide_eq_false;omega) ?_
  refine ⟨0,?_⟩
  all_goals exact fz
def ah:cY 188 aV:=L1 38 (fun _=>2) cZ (fun _=>[]) live step start mix aJ bH (gH Z14.ah Z8.ah) Tryz.func188
def tr {a0:List aa}(h:md a0=true):a0.length<=12:=by
 refine Classical.byContradiction fun hc=>?_
 have e1:decide ((a0.length:Int)<=12)=false:=by apply decide_eq_false;omega
 unfold md at h
 rw [e1] at h
 rw [qF (c:=false)] at h
 ·cases h
 ·intro i x s b h
  revert h
  simp only [Bool.cond_eq_ite]
  repeat' split
  all_goals (intro h;first | (cases h;rfl) | cases h)
end Z15
namespace Z16
inductive Pt where
 | p0 (a:an) (b:Int) (c:an)
def cZ:Pt->List V
 | .p0 a b c=>[.sl none 53 a,.own 0,.int .i64 b]
def eD:Pt->List aK
 | .p0 a b c=>[.row 53 c]
def step (J:Pt->aD):Pt->aD
 | .p0 a b c=>(cond (b<(a.length:Int)) (m2 b (a.length:Int) (call (Z10.R (aC.at a (toNat b))) fun v1=>(cX (fu (((c.length:Int)+1)*56)) (J (.p0 a (i64.wrap (b+1)) (c++[(aC.enc v1)])))))) (ret (c:an)))
def start (J:Pt->aD)(x0:an):aD:=J (.p0 x0 0 [])
def live:Nat->Live:=iD [(3,[(0,none),(3,some 53),(4,none)])]
def md (a0:List aa):List aa:=a0
def gd (a0:List aa):Prop:=(bn (2^21) (fun y:aa=>aa.Sm (2^21) y) a0)
def R:=RR gd md
def aq {a0}(h:gd a0):R (a0.map aa.row)=some (a0.map aa.row):=dX h
def aV:=CN [pL 53] (oL 53) RT.dec R
def bH (a0)(hg:gd a0):∃n,start (iter step n) (a0.map aa.row)=ret ((md a0).map aa.row):=by
 unfold gd at hg
 have H0:=hg
 unfold start md
 try simp only [SS]
 have Bh2:a0.length<=maxLen:=(by
   have:=(H0).1
   try simp only [maxLen] at *
   omega)
 refine ex_eq (out:=(fun b:List aa=>ret ((b.map aa.row):an))) (hU (xs:=a0) (z:=aa.zero) (t:=fun s3:List aa=>s3)) ?_
 refine dW (p:=Pt.p0 (a0.map aa.row) 0 ([].map aa.row)) fz ?_
 refine bV (pt:=fun (i1:Nat) (s3:List aa)=>Pt.p0 (a0.map aa.row) (i1:Int) (s3.map aa.row)) (s:=([]:List aa)) (out:=(fun b:List aa=>ret ((b.map aa.row):an))) (fun (i1:Nat) (s3:List aa)=>s3.length<=([]:List Int).length+1*i1) (fun J i1 s3 h2 hih2=>?_) (fun s3 hih2=>?_) (by simp)
 ·simp only [step,SS]
  have gr_:=hih2
  try simp only [LN] at gr_
  have bb_:=Bh2
  simp only [maxLen] at bb_
  have:=(H0).1
  refine bf.yes (by apply decide_eq_true;omega) ?_
  refine bf.yes bA ?_
  refine bf.yes (bU h2) ?_
  refine cr (Z10.aq (bn.getD (z:=aa.zero) H0 h2)) ?_
  try simp only [SS]
  refine bf.yes lm ?_
  refine bf.inl (by
    have g_:=hih2
    try simp only [LN] at g_ ⊢
    first | omega | (simp;done) | (simp;omega)) ?_
  rw [aR h2 Bh2]
  all_goals exact fz
 ·simp only [step,SS]
  have gr_:=hih2
  try simp only [LN] at gr_
  have:=(H0).1
  refine dQ (by apply decide_eq_false;omega) ?_
  refine ⟨0,?_⟩
  all_goals exact fz
def ah:cY 186 aV:=L1 21 (fun _=>3) cZ eD live step start mix aJ bH (dV Z10.ah) Tryz.func186
end Z16
namespace Z17
inductive Pt where
 | p0 (a:an) (b:Bool) (c:Int) (d:aC) (e:an)
def pid:Pt->Nat
 | .p0 ..=>4
def cZ:Pt->List V
 | .p0 a b c d e=>[.sl none 53 a,.bK 0 0,.own 1,.bool b,.int .i64 c]
def eD:Pt->List aK
 | .p0 a b c d e=>[.box [.str d.bk,.int .i64 d.bp,.int .i64 d.bJ,.sl none 9 d.bg],.row 53 e]
def step (J:Pt->aD):Pt->aD
 | .p0 a b c d e=>(cond (c<(a.length:Int)) (m2 c (a.length:Int) (call (Z8.R ((aC.at a (toNat c)).bk,d.bk)) fun v1=>(cond (v1>=0) (cond (!b) (call (Z10.R d) fun v2=>(cX (fu (((e.length:Int)+1)*56)) (cond (v1 != 0) (m2 c (a.length:Int) (call (Z10.R (aC.at a (toNat c))) fun v3=>(cX (fu ((((e++[(aC.enc v2)]).length:Int)+1)*56)) (J (.p0 a true (i64.wrap (c+1)) d ((e++[(aC.enc v2)])++[(aC.enc v3)])))))) (J (.p0 a true (i64.wrap (c+1)) d (e++[(aC.enc v2)])))))) (cond (v1 != 0) (m2 c (a.length:Int) (call (Z10.R (aC.at a (toNat c))) fun v4=>(cX (fu (((e.length:Int)+1)*56)) (J (.p0 a b (i64.wrap (c+1)) d (e++[(aC.enc v4)])))))) (J (.p0 a b (i64.wrap (c+1)) d e)))) (cond (v1 != 0) (m2 c (a.length:Int) (call (Z10.R (aC.at a (toNat c))) fun v5=>(cX (fu (((e.length:Int)+1)*56)) (J (.p0 a b (i64.wrap (c+1)) d (e++[(aC.enc v5)])))))) (J (.p0 a b (i64.wrap (c+1)) d e)))))) (cond (!b) (call (Z10.R d) fun v6=>(cX (fu (((e.length:Int)+1)*56)) (call (Z15.R a) fun v7=>(cond (!v7) (call (Z16.R a) fun v8=>ret ((v8,false):an×Bool)) (call (Z15.R (e++[(aC.enc v6)])) fun v9=>(cond (!v9) (call (Z16.R a) fun v10=>ret ((v10,false):an×Bool)) (ret (((e++[(aC.enc v6)]),true):an×Bool)))))))) (call (Z15.R a) fun v11=>(cond (!v11) (call (Z16.R a) fun v12=>ret ((v12,false):an×Bool)) (call (Z15.R e) fun v13=>(cond (!v13) (call (Z16.R a) fun v14=>ret ((v14,false):an×Bool)) (ret ((e,true):an×Bool))))))))
def start (J:Pt->aD)(x0:an)(x1:aC):aD:=J (.p0 x0 false 0 x1 [])
def live:Nat->Live:=iD [(4,[(0,none),(3,none),(6,some 53),(7,none),(8,none)])]
def pats:List fH:=[.rd (.sl 53),.agg [.str,aQ,aQ,.sl 9]]
def res:RP:=.gK [(false,[.fr 53]),(false,[.rd (.bool)])]
abbrev E:Env:={ T:=assoc mD,G:=cN [(187,Z8.aV),(70,Z10.aV),(188,Z15.aV),(186,Z16.aV)],nt:=64,M:=eL [],np:=0,mt:=false,I:=fV [] }
def step_eq (I:dK)(p:Pt):dP E live I (pid p) (bQ Tryz.f147) (jr (live (pid p)) (cZ p) (eD p)) (dG E Tryz.f147 res)=step (fun q=>I (pid q) (cZ q) (eD q)) p:=by
 cases p<;>kernel_rfl
def start_eq (I:dK)(ls:List L):gU E live I (bQ Tryz.f147) (dS pats ls) (dG E Tryz.f147 res)=start (fun q=>I (pid q) (cZ q) (eD q)) (fc ls) (aC.dec (cD 1 ls)):=by kernel_rfl
def run_eq (n:Nat)(ls:List L):eS E live Tryz.f147 res n (dS pats ls)=start (iter step n) (fc ls) (aC.dec (cD 1 ls)):=dM (id:=pid) (vs:=cZ) (hs:=eD) (step:=step) (start:=fun J=>start J (fc ls) (aC.dec (cD 1 ls))) step_eq (fun I=>start_eq I ls) n
def gd (x0:an)(x1:aC):Prop:=(∃m:List aa,x0=m.map aa.row/\bn 1000 (fun z:aa=>aa.Sm 64 z) m/\Z15.md m=true)/\∃e:aa,x1=aa.r e/\aa.Sm 64 e
def post (x0:an)(x1:aC)(y:an×Bool):Prop:=∃m:List aa,y.1=m.map aa.row/\bn (x0.length+1) (fun z:aa=>aa.Sm 64 z) m/\Z15.md m=true
def wp (x0:an)(x1:aC)(hg:gd x0 x1):∃n,Wp (start (iter step n) x0 x1) (post x0 x1):=by
 obtain ⟨⟨m,rfl,hm,ha⟩,e0,rfl,he⟩:=hg
 have big:∀{z:aa},aa.Sm 64 z->aa.Sm (2^21) z:=fun h=>aa.bC (by decide) h
 have hmb:bn (2^21) (fun z:aa=>aa.Sm (2^21) z) m:=hm.mono (by decide) fun _ h=>big h
 have hlen:=hm.1
 refine ⟨m.length+2,jD (fun p=>match p with | .p0 a b c d e=>a=m.map aa.row/\d=aa.r e0/\0<=c/\c<=m.length/\∃es:List aa,e=es.map aa.row/\(es.length:Int)<=c+(cond b 1 0)/\∀z∈es,aa.Sm 64 z) (fun p=>match p with | .p0 a b c d e=>((m.length:Int) - c).toNat) (fun J p hI hJ=>?_) _ _ ⟨rfl,rfl,Int.le_refl _,by omega,[],rfl,by show (0:Int)<=0+0;decide,fun _ h=>(nomatch h)⟩ (by show ((m.length:Int) - 0).toNat<_;omega)⟩
 obtain ⟨a,b,c,d,e⟩:=p
 obtain ⟨rfl,rfl,h1,h2,es,rfl,h3,h4⟩:=hI
 have hb:(cond b (1:Int) 0)<=1:=by cases b<;>decide
 have add:∀(es:List aa) (z:aa),(es.map aa.row)++[aC.enc (aa.r z)]=(es++[z]).map aa.row:=fun es z=>by rw [List.map_append];rfl
 have two:∀{es:List aa} {z:aa},(∀z∈es,aa.Sm 64 z)->aa.Sm 64 z->∀y∈es++[z],aa.Sm 64 y:=fun h1 h2 y hy=>(List.mem_append.1 hy).elim (h1 y) fun h=>by simp at h;subst h;exact h2
 have fin:∀(es:List aa),(es.length:Int)<=m.length+1->(∀z∈es,aa.Sm 64 z)->Wp (call (Z15.R (m.map aa.row)) fun v7=>(cond (!v7) (call (Z16.R (m.map aa.row)) fun v8=>ret ((v8,false):an×Bool)) (call (Z15.R (es.map aa.row)) fun v9=>(cond (!v9) (call (Z16.R (m.map aa.row)) fun v10=>ret ((v10,false):an×Bool)) (ret ((es.map aa.row,true):an×Bool)))))) (post (m.map aa.row) (aa.r e0)):=by
  intro es hl hs
  have hp:∀q:Bool,post (m.map aa.row) (aa.r e0) (m.map aa.row,q):=fun q=>⟨m,rfl,⟨by rw [List.length_map];omega,hm.2⟩,ha⟩
  refine bD (Z15.aq hmb) (wp_cond (fun _=>bD (Z16.aq hmb) (wp_ret (hp _))) (fun _=>bD (Z15.aq ⟨by omega,fun z hz=>big (hs z hz)⟩) (wp_cond (fun _=>bD (Z16.aq hmb) (wp_ret (hp _))) (fun hq=>wp_ret ⟨es,rfl,⟨by rw [List.length_map];omega,hs⟩,by simpa using hq⟩))))
 refine wp_cond (fun c1=>?_) (fun c1=>?_)
 ·have c1:=of_decide_eq_true c1
  rw [List.length_map] at c1
  have e1:i64.wrap (c+1)=c+1:=wi _ (by omega)
  have hc0:c.toNat<m.length:=by omega
  have hat:aC.at (m.map aa.row) (toNat c)=aa.r (m[c.toNat]):=aa.kP hc0
  have hSm:aa.Sm 64 m[c.toNat]:=hm.get hc0
  have hcl:c<((m.map aa.row).length:Int):=by rw [List.length_map];exact c1
  have lm:∀es:List aa,(es.length:Int)<=m.length+2->fu (((es.map aa.row).length+1:Int)*56)=true:=fun es h=>gq (by rw [List.length_map];omega)
  have go:∀(b2:Bool) (es2:List aa),(es2.length:Int)<=c+1+(cond b2 1 0)->(∀z∈es2,aa.Sm 64 z)->Wp (J (.p0 (m.map aa.row) b2 (i64.wrap (c+1)) (aa.r e0) (es2.map aa.row))) (post (m.map aa.row) (aa.r e0)):=fun b2 es2 hl hs=>
   hJ _ ⟨rfl,rfl,by show 0<=i64.wrap (c+1);omega,by show i64.wrap (c+1)<=_;omega,es2,rfl,by rw [e1];exact hl,hs⟩ (by show ((m.length:Int) - i64.wrap (c+1)).toNat<((m.length:Int) - c).toNat;omega)
  refine mS h1 hcl ?_
  rw [hat]
  refine bD (Z8.aq trivial) (wp_cond (fun _=>wp_cond (fun cb=>?_) (fun _=>?_)) (fun _=>?_))
  ·have hbf:b=false:=by simpa using cb
   subst hbf
   have h3:(es.length:Int)<=c+0:=h3
   refine bD (Z10.aq (big he)) (eX (lm es (by omega)) ?_)
   rw [add]
   refine wp_cond (fun _=>mS h1 hcl (bD (Z10.aq (big hSm)) (eX (lm _ (by simp;omega)) ?_))) (fun _=>go true _ (by simp;omega) (two h4 he))
   rw [add]
   exact go true _ (by simp;omega) (two (two h4 he) hSm)
  ·refine wp_cond (fun _=>mS h1 hcl (bD (Z10.aq (big hSm)) (eX (lm es (by omega)) ?_))) (fun _=>go b es (by omega) h4)
   rw [add]
   exact go b _ (by simp;omega) (two h4 hSm)
  ·refine wp_cond (fun _=>mS h1 hcl (bD (Z10.aq (big hSm)) (eX (lm es (by omega)) ?_))) (fun _=>go b es (by omega) h4)
   rw [add]
   exact go b _ (by simp;omega) (two h4 hSm)
 ·refine wp_cond (fun cb=>?_) (fun _=>fin es (by omega) h4)
  have hbf:b=false:=by simpa using cb
  subst hbf
  have h3:(es.length:Int)<=c+0:=h3
  refine bD (Z10.aq (big he)) (eX (gq (by rw [List.length_map];omega)) ?_)
  rw [add]
  exact fin _ (by simp;omega) (two h4 he)
def R:(an×aC)->Option (an×Bool):=RQ (fun n x=>start (iter step n) x.1 x.2) (fun x=>post x.1 x.2)
def cF {x0:an}{x1:aC}{γ:Type}[RT γ]{k:(an×Bool)->aD}{Q:γ->Prop}(hg:gd x0 x1)(hk:∀y,post x0 x1 y->Wp (k y) Q):Wp (call (R (x0,x1)) k) Q:=dY (wp x0 x1 hg) hk
def acc (ls:List L):an×aC:=((fc ls),(aC.dec (cD 1 ls)))
def aV:gW:=CN pats res acc R
def ah:cY 147 aV:=VQ (live:=live) (mt:=false) mix aJ (tG Z8.ah Z10.ah Z15.ah Z16.ah) .nil .nil Tryz.func147 (by kernel_rfl) run_eq
end Z17
namespace Z18
inductive Pt where
 | p0 (a b c:Int) (d e:an)
def pid:Pt->Nat
 | .p0 ..=>3
def cZ:Pt->List V
 | .p0 a b c d e=>[.bK 0 0,.own 2,.int .i64 a]
def eD:Pt->List aK
 | .p0 a b c d e=>[.box [.own 1,.int .i64 b,.int .i64 c],.vw 5 d,.row 53 e]
def step (J:Pt->aD):Pt->aD
 | .p0 a b c d e=>(cond (a>0) (call (Z6.R (d,b,c)) fun v1=>(call (Z4.R (d,v1.2.1,v1.2.2.1,50)) fun v2=>(call (Z7.R (v1.2.2.2,v2.2.2.2)) fun v3=>(call (Z17.R (e,v3)) fun v4=>J (.p0 (i64.wrap (a - 1)) v2.2.1 v2.2.2.1 d v4.1))))) (ret ((Hl.mk,b,c,e):Hl×Int×Int×an)))
def start (J:Pt->aD)(x0:an)(x1 x2:Int):aD:=(call (Z4.R (x0,x1,x2,4)) fun v1=>J (.p0 v1.2.2.2 v1.2.1 v1.2.2.1 x0 []))
def live:Nat->Live:=iD [(3,[(0,none),(3,some 53),(4,none)])]
abbrev cG:List K:=[.sl 5,aQ,aQ]
def pats:List (Option fH):=[none]
def res:RP:=.one (.fr 53)
abbrev E:Env:={ T:=assoc mD,G:=cN [(112,Z7.aV),(147,Z17.aV)],nt:=23,M:=eL [],np:=(nC cG),mt:=false,I:=fV [(52,Z4.ic (nC cG)),(108,Z6.ic (nC cG))] }
def step_eq (I:dK)(p:Pt):dP E live I (pid p) (bQ Tryz.f146) (jr (live (pid p)) (cZ p) (eD p)) (dG E Tryz.f146 (.cur cG res.parts))=step (fun q=>I (pid q) (cZ q) (eD q)) p:=by
 cases p<;>kernel_rfl
def start_eq (I:dK)(ls:List L):gU E live I (bQ Tryz.f146) (gr cG pats ls) (dG E Tryz.f146 (.cur cG res.parts))=start (fun q=>I (pid q) (cZ q) (eD q)) (fc ls) (cA 1 ls) (cA 2 ls):=by kernel_rfl
def run_eq (n:Nat)(ls:List L):eS E live Tryz.f146 (.cur cG res.parts) n (gr cG pats ls)=start (iter step n) (fc ls) (cA 1 ls) (cA 2 ls):=dM (id:=pid) (vs:=cZ) (hs:=eD) (step:=step) (start:=fun J=>start J (fc ls) (cA 1 ls) (cA 2 ls)) step_eq (fun I=>start_eq I ls) n
def gd (x0:an)(x1 x2:Int):Prop:=CI x0 x1
def post (x0:an)(x1 x2:Int)(y:Hl×Int×Int×an):Prop:=CI x0 y.2.1/\∃m:List aa,y.2.2.2=m.map aa.row/\bn 8 (fun z:aa=>aa.Sm 64 z) m/\Z15.md m=true
def wp (x0:an)(x1 x2:Int)(hg:gd x0 x1 x2):∃n,Wp (start (iter step n) x0 x1 x2) (post x0 x1 x2):=by
 have key:∀a d e,0<=a->a<=7->CI x0 d->∃n,Wp (iter step n (.p0 a d e x0 [])) (post x0 x1 x2):=by
  intro a d e h1 h2 h3
  refine ⟨9,jD (fun p=>match p with | .p0 a b c d e=>0<=a/\a<=7/\CI d b/\d=x0/\∃ms:List aa,e=ms.map aa.row/\(ms.length:Int)+a<=7/\(∀s∈ms,aa.Sm 64 s)/\Z15.md ms=true) (fun p=>match p with | .p0 a b c d e=>a.toNat) (fun J p hI hJ=>?_) _ _ ⟨h1,h2,h3,rfl,[],rfl,by show (0:Int)+a<=7;omega,fun _ h=>(nomatch h),rfl⟩ (by show a.toNat<9;omega)⟩
  obtain ⟨a,b,c,d,e⟩:=p
  obtain ⟨k1,k2,k3,rfl,ms,rfl,h6,h7,h8⟩:=hI
  refine wp_cond (fun c1=>?_) (fun c1=>?_)
  ·have c1:=of_decide_eq_true c1
   have e1:i64.wrap (a - 1)=a - 1:=wi _ (by omega)
   refine Z6.cF k3 (fun v ⟨hv,hs⟩=>Z4.cF hv (fun u ⟨hu,_,_⟩=>bD (Z7.aq trivial) (Z17.cF ⟨⟨ms,rfl,⟨by omega,h7⟩,h8⟩,_,rfl,le_trans hs (by decide),zero_le _,fun _ h=>(nomatch h)⟩ (fun w ⟨m2,e2,⟨hl,hs2⟩,ha⟩=>hJ _ ⟨?_,?_,hu,rfl,m2,e2,?_,hs2,ha⟩ ?_))))
   ·show 0<=i64.wrap (a - 1);omega
   ·show i64.wrap (a - 1)<=7;omega
   ·rw [List.length_map] at hl;rw [e1];omega
   ·show (i64.wrap (a - 1)).toNat<a.toNat;omega
  ·exact wp_ret ⟨k3,ms,rfl,⟨show ms.length<=8 by omega,h7⟩,h8⟩
 obtain ⟨v,hv,pv⟩:=Z4.kO (x3:=4) hg
 obtain ⟨h1,h2⟩:=pv.2.2 (by decide)
 obtain ⟨n,hn⟩:=key v.2.2.2 v.2.1 v.2.2.1 h1 (by omega) pv.1
 exact ⟨n,bD hv hn⟩
def R:(an×Int×Int)->Option (Hl×Int×Int×an):=RQ (fun n x=>start (iter step n) x.1 x.2.1 x.2.2) (fun x=>post x.1 x.2.1 x.2.2)
def cF {x0:an}{x1 x2:Int}{γ:Type}[RT γ]{k:(Hl×Int×Int×an)->aD}{Q:γ->Prop}(hg:gd x0 x1 x2)(hk:∀y,post x0 x1 x2 y->Wp (k y) Q):Wp (call (R (x0,x1,x2)) k) Q:=dY (wp x0 x1 x2 hg) hk
def acc (ls:List L):an×Int×Int:=((fc ls),(cA 1 ls),(cA 2 ls))
def aV:iL:=CC cG pats res acc R
def ah:fG Tryz.prog Ev 146 aV:=VC (live:=live) (mt:=false) mix aJ (gH Z7.ah Z17.ah) .nil (.cons (Z4.bq (nC cG)) (.cons (Z6.bq (nC cG)) .nil)) Tryz.func146 (by kernel_rfl) run_eq
def ic (_:Nat):fU:=iQ Ev aV
def bq (n:Nat):dh Tryz.prog Ev n 146 (ic n):=dF ah
end Z18
namespace Z19
def F (x0:bl):aD:=(cX (fu (((2:Int)+(x0.bR.length:Int))*8)) (ret (([[L.int x0.dR],[L.int (x0.bR.length:Int)]]++x0.bR):an)))
def md (a0:aM):List Int:=([a0.dR,(a0.bR.length:Int)]++a0.bR)
def gd (a0:aM):Prop:=(aM.Sm (2^21) a0)
def R:=RR gd md
def aq {a0}(h:gd a0):R (aM.r a0)=some ((md a0).map bh):=dX h
def aV:=CN [.agg xz] (oL 3) RT.dec R
def bH (a0)(hg:gd a0):F (aM.r a0)=ret ((md a0).map bh):=by
 unfold gd at hg
 have H0:=hg
 unfold F md
 try simp only [SS]
 refine aW (have:=(H0).1;lm) ?_
 all_goals exact fz
def ah:cY 171 aV:=W1 12 F mix aJ bH .nil Tryz.func171
def len (a0:aM):(md a0).length=2+a0.bR.length:=by simp [md];omega
end Z19
namespace Z20
def F (x0 x1:Int):aD:=(call (Z11.R (x1,1,1000000000000)) fun v1=>(cond (!v1) (ret (0:Int)) (cond (x1=0) none (cond (x1=0) none (ret ((Int.tmod (i64.wrap ((Int.tmod x0 x1)+x1)) x1):Int))))))
def md (a0 a1:Int):Int:=(cond (!(Z11.md a1 1 1000000000000)) (0:Int) ((Int.tmod (i64.wrap ((Int.tmod a0 a1)+a1)) a1):Int))
def gd (a0 a1:Int):Prop:=True
def R:=eA gd md
def aq {a0 a1}(h:gd a0 a1):R (a0,a1)=some (md a0 a1):=eB h
def aV:=CN [pI,pI] oI RT.dec R
def bH (a0)(a1)(hg:gd a0 a1):F a0 a1=ret (md a0 a1):=by
 unfold F md
 try simp only [SS]
 refine ct (Z11.aq trivial) ?_
 refine au ret (fun _=>rfl) (fun c1=>?_)
 have dc1:=c1
 try simp only [DC] at dc1
 have Dc1:=c1
 try simp [Z11.md] at Dc1
 refine gu df ?_
 refine gu df ?_
 all_goals exact fz
def ah:cY 214 aV:=W2 15 F mix aJ bH (dV Z11.ah) Tryz.func214
end Z20
namespace Z21
inductive Pt where
 | p0 (a:an) (b c:Int)
def cZ:Pt->List V
 | .p0 a b c=>[.sl none 3 a,.int .i64 b,.int .i64 c]
def step (J:Pt->aD):Pt->aD
 | .p0 a b c=>(cond (c<(a.length:Int)) (m2 c (a.length:Int) (call (Z20.R ((iE a (toNat c)),2147483647)) fun v1=>J (.p0 a (Int.tmod (i64.wrap ((i64.wrap ((i64.wrap (b*1000003))+v1))+13)) 2147483647) (i64.wrap (c+1))))) (ret (b:Int)))
def start (J:Pt->aD)(x0:an):aD:=J (.p0 x0 11 0)
def live:Nat->Live:=iD [(3,mN [0,3,4])]
def md (a0:List Int):Int:=(eI (S:=Int) (β:=Int) (fun (y1:Int) (s3:Int)=>(.inl (Int.tmod (i64.wrap ((i64.wrap ((i64.wrap (s3*1000003))+(Z20.md y1 2147483647)))+13)) 2147483647))) (fun (s3:Int)=>(s3:Int)) a0 11)
def gd (a0:List Int):Prop:=(bn (2^43) (fun y:Int=>True) a0)
def R:=RR gd md
def aq {a0}(h:gd a0):R (a0.map bh)=some (md a0):=dX h
def aV:=CN [pL 3] oI RT.dec R
def bH (a0)(hg:gd a0):∃n,start (iter step n) (a0.map bh)=ret (md a0):=by
 unfold gd at hg
 have H0:=hg
 unfold start md
 try simp only [SS]
 have Bh2:a0.length<=maxLen:=(by
   have:=(H0).1
   try simp only [maxLen] at *
   omega)
 refine ex_eq (out:=ret) (eo (z:=0)) ?_
 refine dW (p:=Pt.p0 (a0.map bh) 11 0) fz ?_
 refine bV (pt:=fun (i1:Nat) (s3:Int)=>Pt.p0 (a0.map bh) s3 (i1:Int)) (s:=(11:Int)) (out:=ret) (fun _ _=>True) (fun J i1 s3 h2 hih2=>?_) (fun s3 hih2=>?_) trivial
 ·simp only [step,SS]
  have bb_:=Bh2
  simp only [maxLen] at bb_
  have:=(H0).1
  refine bf.yes (by apply decide_eq_true;omega) ?_
  refine bf.yes bA ?_
  refine bf.yes (bU h2) ?_
  refine cr (Z20.aq trivial) ?_
  refine bf.inl trivial ?_
  rw [aR h2 Bh2]
  all_goals exact fz
 ·simp only [step,SS]
  have:=(H0).1
  refine dQ (by apply decide_eq_false;omega) ?_
  refine ⟨0,?_⟩
  all_goals exact fz
def ah:cY 170 aV:=L1 22 (fun _=>3) cZ (fun _=>[]) live step start mix aJ bH (dV Z20.ah) Tryz.func170
end Z21
namespace Z22
def F (x0:bl)(x1:Int):aD:=(call (Z19.R x0) fun v1=>(cX (fu (((2:Int)+(v1.length:Int))*8)) (call (Z21.R ([[L.int 239],[L.int x1]]++v1)) fun v2=>ret (v2:Int))))
def md (a0:aM)(a1:Int):Int:=((Z21.md ([239,a1]++(Z19.md a0))):Int)
def gd (a0:aM)(a1:Int):Prop:=(aM.Sm (2^21) a0)
def R:=eA gd md
def aq {a0 a1}(h:gd a0 a1):R ((aM.r a0),a1)=some (md a0 a1):=eB h
def aV:=CN [.agg xz,pI] oI RT.dec R
def bH (a0)(a1)(hg:gd a0 a1):F (aM.r a0) a1=ret (md a0 a1):=by
 unfold gd at hg
 have H0:=hg
 unfold F md
 try simp only [SS]
 refine ct (Z19.aq H0) ?_
 try simp only [SS]
 refine aW (have:=Z19.len a0;have:=(H0).1;lm) ?_
 refine ec (Z21.md ([239,a1]++(Z19.md a0))) (rq (Z21.aq (a0:=([239,a1]++(Z19.md a0))) ⟨(have:=Z19.len a0;have:=(H0).1;om),fun _ _=>trivial⟩)) ?_
 all_goals exact fz
def ah:cY 134 aV:=W2 11 F mix aJ bH (gH Z19.ah Z21.ah) Tryz.func134
end Z22
namespace Z23
inductive Pt where
 | p0 (a:an) (b:Int) (c:an)
def cZ:Pt->List V
 | .p0 a b c=>[.sl none 5 a,.own 0,.int .i64 b]
def eD:Pt->List aK
 | .p0 a b c=>[.row 3 c]
def step (J:Pt->aD):Pt->aD
 | .p0 a b c=>(cond (b<(a.length:Int)) (m2 b (a.length:Int) (cX (fu (((c.length:Int)+1)*8)) (J (.p0 a (i64.wrap (b+1)) (c++[[L.int (i64.wrap (iE a (toNat b)))]]))))) (ret (c:an)))
def start (J:Pt->aD)(x0:an):aD:=J (.p0 x0 0 [[L.int (x0.length:Int)]])
def live:Nat->Live:=iD [(3,mN [0,3,4])]
def md (a0:List Int):List Int:=([(a0.length:Int)]++a0.map (fun (y1:Int)=>(i64.wrap y1)))
def gd (a0:List Int):Prop:=(bn (2^38) (fun y:Int=>True) a0)
def R:=RR gd md
def aq {a0}(h:gd a0):R (a0.map bh)=some ((md a0).map bh):=dX h
def aV:=CN [pL 5] (oL 3) RT.dec R
def bH (a0)(hg:gd a0):∃n,start (iter step n) (a0.map bh)=ret ((md a0).map bh):=by
 unfold gd at hg
 have H0:=hg
 unfold start md
 try simp only [SS]
 have Bh2:a0.length<=maxLen:=(by
   have:=(H0).1
   try simp only [maxLen] at *
   omega)
 refine ex_eq (out:=(fun b:List Int=>ret ((b.map bh):an))) (qo (g:=fun (y1:Int)=>(i64.wrap y1)) (z:=0) (t:=fun (s3:List Int)=>s3) (s:=[(a0.length:Int)])) ?_
 refine dW (p:=Pt.p0 (a0.map bh) 0 ([(a0.length:Int)].map bh)) fz ?_
 refine bV (pt:=fun (i1:Nat) (s3:List Int)=>Pt.p0 (a0.map bh) (i1:Int) (s3.map bh)) (s:=([(a0.length:Int)]:List Int)) (out:=(fun b:List Int=>ret ((b.map bh):an))) (fun (i1:Nat) (s3:List Int)=>s3.length<=[(a0.length:Int)].length+1*i1) (fun J i1 s3 h2 hih2=>?_) (fun s3 hih2=>?_) (by simp)
 ·simp only [step,SS]
  have gr_:=hih2
  try simp only [LN] at gr_
  have:=(H0).1
  have bb_:=Bh2
  simp only [maxLen] at bb_
  have:=(H0).1
  refine bf.yes (by apply decide_eq_true;omega) ?_
  refine bf.yes bA ?_
  refine bf.yes (bU h2) ?_
  refine bf.yes lm ?_
  refine bf.inl (by
    have g_:=hih2
    try simp only [LN] at g_ ⊢
    first | omega | (simp;done) | (simp;omega)) ?_
  rw [aR h2 Bh2]
  all_goals exact fz
 ·simp only [step,SS]
  have gr_:=hih2
  try simp only [LN] at gr_
  have:=(H0).1
  have:=(H0).1
  refine dQ (by apply decide_eq_false;omega) ?_
  refine ⟨0,?_⟩
  all_goals exact fz
def ah:cY 261 aV:=L1 23 (fun _=>3) cZ eD live step start mix aJ bH .nil Tryz.func261
def len (a0:List Int):(md a0).length=1+a0.length:=by simp [md];omega
end Z23
namespace Z24
def F (x0:av):aD:=(cX ((x0.size:Int)<=140737488355328) (call (Z23.R (jt x0)) fun v1=>ret (v1:an)))
def md (a0:av):List Int:=(Z23.md (lA a0))
def gd (a0:av):Prop:=(a0.size<=(2^21))
def R:=RR gd md
def aq {a0}(h:gd a0):R a0=some ((md a0).map bh):=dX h
def aV:=CN [pS] (oL 3) RT.dec R
def bH (a0)(hg:gd a0):F a0=ret ((md a0).map bh):=by
 unfold gd at hg
 have H0:=hg
 unfold F md
 try simp only [SS]
 refine aW (have:=H0;dt) ?_
 refine ec ((Z23.md (lA a0)).map bh) (rq (Z23.aq (a0:=(lA a0)) ⟨(have:=kK a0;have:=H0;om),fun _ _=>trivial⟩)) ?_
 try simp only [SS]
 all_goals exact fz
def ah:cY 259 aV:=W1 6 F mix aJ bH (dV Z23.ah) Tryz.func259
def len (a0:av):(md a0).length=1+a0.size:=by simp [md,Z23.len,kK]
end Z24
namespace Z25
inductive Pt where
 | p0 (a:Int) (b:aC) (c:an)
def cZ:Pt->List V
 | .p0 a b c=>[.bK 0 0,.own 1,.int .i64 a]
def eD:Pt->List aK
 | .p0 a b c=>[.box [.str b.bk,.int .i64 b.bp,.int .i64 b.bJ,.sl none 9 b.bg],.row 3 c]
def step (J:Pt->aD):Pt->aD
 | .p0 a b c=>(cond (a<(b.bg.length:Int)) (m2 a (b.bg.length:Int) (call (Z24.R (tw b.bg (toNat a))) fun v1=>(cX (fu (((c.length:Int)+(v1.length:Int))*8)) (J (.p0 (i64.wrap (a+1)) b (c++v1)))))) (ret (c:an)))
def start (J:Pt->aD)(x0:aC):aD:=(call (Z24.R x0.bk) fun v1=>(cX (fu (((v1.length:Int)+3)*8)) (J (.p0 0 x0 (v1++[[L.int x0.bp],[L.int x0.bJ],[L.int (x0.bg.length:Int)]])))))
def live:Nat->Live:=iD [(3,mN [1,3,4])]
def md (a0:aa):List Int:=(((Z24.md a0.bk)++[a0.bp,a0.bJ,(a0.bg.length:Int)])++a0.bg.flatMap (fun (y1:av)=>(Z24.md y1)))
def gd (a0:aa):Prop:=(aa.Sm (2^21) a0)
def R:=RR gd md
def aq {a0}(h:gd a0):R (aa.r a0)=some ((md a0).map bh):=dX h
def aV:=CN [.agg xx] (oL 3) RT.dec R
def bH (a0)(hg:gd a0):∃n,start (iter step n) (aa.r a0)=ret ((md a0).map bh):=by
 unfold gd at hg
 have H0:=hg
 unfold start md
 try simp only [SS]
 refine cx (Z24.aq H0.1) ?_
 try simp only [SS]
 refine fJ (have:=Z24.len a0.bk;have:=H0.1;lm) ?_
 have Bh2:a0.bg.length<=maxLen:=(by
   have:=(H0.2).1
   try simp only [maxLen] at *
   omega)
 refine ex_eq (out:=(fun b:List Int=>ret ((b.map bh):an))) (xC (g:=fun (y1:av)=>(Z24.md y1)) (z:=⟨#[]⟩) (t:=fun (s3:List Int)=>s3) (s:=((Z24.md a0.bk)++[a0.bp,a0.bJ,(a0.bg.length:Int)]))) ?_
 refine dW (p:=Pt.p0 0 (aa.r a0) (((Z24.md a0.bk)++[a0.bp,a0.bJ,(a0.bg.length:Int)]).map bh)) fz ?_
 refine bV (pt:=fun (i1:Nat) (s3:List Int)=>Pt.p0 (i1:Int) (aa.r a0) (s3.map bh)) (s:=(((Z24.md a0.bk)++[a0.bp,a0.bJ,(a0.bg.length:Int)]):List Int)) (out:=(fun b:List Int=>ret ((b.map bh):an))) (fun (i1:Nat) (s3:List Int)=>s3.length<=4+a0.bk.size+i1*(2^21+1)) (fun J i1 s3 h2 hih2=>?_) (fun s3 hih2=>?_) (by
   have:=(H0.2).1
   have:=Z24.len a0.bk
   have:=H0.1
   try simp only [LN]
   try simp
   try omega)
 ·simp only [step,SS]
  have gr_:=hih2
  try simp only [LN] at gr_
  have:=H0.1
  have bb_:=Bh2
  simp only [maxLen] at bb_
  have:=(H0.2).1
  refine bf.yes (by apply decide_eq_true;omega) ?_
  refine bf.yes bA ?_
  refine bf.yes (bU h2) ?_
  refine cr (Z24.aq (bn.getD (z:=⟨#[]⟩) H0.2 h2)) ?_
  try simp only [SS]
  refine bf.yes (have:=Z24.len (a0.bg.getD i1 ⟨#[]⟩);have:=(bn.getD (z:=⟨#[]⟩) H0.2 h2);lm) ?_
  refine bf.inl (by
    have:=Z24.len (a0.bg.getD i1 ⟨#[]⟩)
    have:=(bn.getD (z:=⟨#[]⟩) H0.2 h2)
    have g_:=hih2
    try simp only [LN] at g_ ⊢
    first | omega | (simp;done) | (simp;omega)) ?_
  rw [aR h2 Bh2]
  all_goals exact fz
 ·simp only [step,SS]
  have gr_:=hih2
  try simp only [LN] at gr_
  have:=H0.1
  have:=(H0.2).1
  refine dQ (by apply decide_eq_false;omega) ?_
  refine ⟨0,?_⟩
  all_goals exact fz
def ah:cY 251 aV:=L1 33 (fun _=>3) cZ eD live step start mix aJ bH (dV Z24.ah) Tryz.func251
def fY {a0:aa}(hg:gd a0):bn (2^43 - 1) (fun y:Int=>True) (md a0):=by
 unfold gd at hg
 refine ⟨?_,fun _ _=>trivial⟩
 unfold md
 have h1:=mm (xs:=a0.bg) (g:=fun y=>Z24.md y) (n:=2^21+1) (fun x hx=>by rw [Z24.len];have:=hg.2.2 x hx;omega)
 have h2:=hg.1
 have h3:=hg.2.1
 have h4:=Z24.len a0.bk
 simp only [List.length_append,List.length_cons,List.length_nil]
 omega
end Z25
namespace Z26
def F (x0:aC):aD:=(call (Z25.R x0) fun v1=>(cX (fu (((1:Int)+(v1.length:Int))*8)) (call (Z21.R ([[L.int 227]]++v1)) fun v2=>ret (v2:Int))))
def md (a0:aa):Int:=((Z21.md ([227]++(Z25.md a0))):Int)
def gd (a0:aa):Prop:=(aa.Sm (2^21) a0)
def R:=RR gd md
def aq {a0}(h:gd a0):R (aa.r a0)=some (md a0):=dX h
def aV:=CN [.agg xx] oI RT.dec R
def bH (a0)(hg:gd a0):F (aa.r a0)=ret (md a0):=by
 unfold gd at hg
 have H0:=hg
 unfold F md
 try simp only [SS]
 refine ct (Z25.aq H0) ?_
 try simp only [SS]
 refine aW (have:=((Z25.fY (a0:=a0) H0)).1;lm) ?_
 refine ec (Z21.md ([227]++(Z25.md a0))) (rq (Z21.aq (a0:=([227]++(Z25.md a0))) ⟨(have:=((Z25.fY (a0:=a0) H0)).1;om),fun _ _=>trivial⟩)) ?_
 all_goals exact fz
def ah:cY 236 aV:=W1 8 F mix aJ bH (gH Z25.ah Z21.ah) Tryz.func236
end Z26
namespace Z27
inductive Pt where
 | p0 (a:an) (b:Int) (c:an)
def cZ:Pt->List V
 | .p0 a b c=>[.sl none 53 a,.own 0,.int .i64 b]
def eD:Pt->List aK
 | .p0 a b c=>[.row 3 c]
def step (J:Pt->aD):Pt->aD
 | .p0 a b c=>(cond (b<(a.length:Int)) (m2 b (a.length:Int) (call (Z26.R (aC.at a (toNat b))) fun v1=>(cX (fu (((c.length:Int)+1)*8)) (J (.p0 a (i64.wrap (b+1)) (c++[[L.int v1]])))))) (ret (c:an)))
def start (J:Pt->aD)(x0:an):aD:=J (.p0 x0 0 [])
def live:Nat->Live:=iD [(3,[(0,none),(3,some 3),(4,none)])]
def md (a0:List aa):List Int:=(a0.map (fun (y1:aa)=>(Z26.md y1)))
def gd (a0:List aa):Prop:=(bn (2^21) (fun y:aa=>aa.Sm (2^21) y) a0)
def R:=RR gd md
def aq {a0}(h:gd a0):R (a0.map aa.row)=some ((md a0).map bh):=dX h
def aV:=CN [pL 53] (oL 3) RT.dec R
def bH (a0)(hg:gd a0):∃n,start (iter step n) (a0.map aa.row)=ret ((md a0).map bh):=by
 unfold gd at hg
 have H0:=hg
 unfold start md
 try simp only [SS]
 have Bh2:a0.length<=maxLen:=(by
   have:=(H0).1
   try simp only [maxLen] at *
   omega)
 refine ex_eq (out:=(fun b:List Int=>ret ((b.map bh):an))) (xX (g:=fun (y1:aa)=>(Z26.md y1)) (z:=aa.zero) (t:=fun (s3:List Int)=>s3)) ?_
 refine dW (p:=Pt.p0 (a0.map aa.row) 0 ([].map bh)) fz ?_
 refine bV (pt:=fun (i1:Nat) (s3:List Int)=>Pt.p0 (a0.map aa.row) (i1:Int) (s3.map bh)) (s:=([]:List Int)) (out:=(fun b:List Int=>ret ((b.map bh):an))) (fun (i1:Nat) (s3:List Int)=>s3.length<=([]:List Int).length+1*i1) (fun J i1 s3 h2 hih2=>?_) (fun s3 hih2=>?_) (by simp)
 ·simp only [step,SS]
  have gr_:=hih2
  try simp only [LN] at gr_
  have bb_:=Bh2
  simp only [maxLen] at bb_
  have:=(H0).1
  refine bf.yes (by apply decide_eq_true;omega) ?_
  refine bf.yes bA ?_
  refine bf.yes (bU h2) ?_
  refine cr (Z26.aq (bn.getD (z:=aa.zero) H0 h2)) ?_
  refine bf.yes lm ?_
  refine bf.inl (by
    have g_:=hih2
    try simp only [LN] at g_ ⊢
    first | omega | (simp;done) | (simp;omega)) ?_
  rw [aR h2 Bh2]
  all_goals exact fz
 ·simp only [step,SS]
  have gr_:=hih2
  try simp only [LN] at gr_
  have:=(H0).1
  refine dQ (by apply decide_eq_false;omega) ?_
  refine ⟨0,?_⟩
  all_goals exact fz
def ah:cY 220 aV:=L1 21 (fun _=>3) cZ eD live step start mix aJ bH (dV Z26.ah) Tryz.func220
def len (a0:List aa):(md a0).length=a0.length:=by simp [md]
end Z27
namespace Z28
def F (x0 x1:Int):aD:=(call (Z21.R [[L.int 229],[L.int x0],[L.int x1]]) fun v1=>ret (v1:Int))
def md (a0 a1:Int):Int:=((Z21.md [229,a0,a1]):Int)
def gd (a0 a1:Int):Prop:=True
def R:=eA gd md
def aq {a0 a1}(h:gd a0 a1):R (a0,a1)=some (md a0 a1):=eB h
def aV:=CN [pI,pI] oI RT.dec R
def bH (a0)(a1)(hg:gd a0 a1):F a0 a1=ret (md a0 a1):=by
 unfold F md
 try simp only [SS]
 refine ec (Z21.md [229,a0,a1]) (rq (Z21.aq (a0:=[229,a0,a1]) ⟨(om),fun _ _=>trivial⟩)) ?_
 all_goals exact fz
def ah:cY 250 aV:=W2 9 F mix aJ bH (dV Z21.ah) Tryz.func250
end Z28
namespace Z29
inductive Pt where
 | p0 (a:an) (b:Int) (c:an)
def cZ:Pt->List V
 | .p0 a b c=>[.sl none 3 a,.own 0,.int .i64 b]
def eD:Pt->List aK
 | .p0 a b c=>[.row 3 c]
def step (J:Pt->aD):Pt->aD
 | .p0 a b c=>(cond (b<(a.length:Int)) (cond ((i64.wrap (b+1))<(a.length:Int)) (m2 b (a.length:Int) (cX ((0:Int)<=(i64.wrap (b+1))) (cX ((i64.wrap (b+1))<(a.length:Int)) (call (Z28.R ((iE a (toNat b)),(iE a (toNat (i64.wrap (b+1)))))) fun v1=>(cX (fu (((c.length:Int)+1)*8)) (J (.p0 a (i64.wrap (b+2)) (c++[[L.int v1]])))))))) (m2 b (a.length:Int) (cX (fu (((c.length:Int)+1)*8)) (J (.p0 a (i64.wrap (b+2)) (c++[[L.int (iE a (toNat b))]])))))) (ret (c:an)))
def start (J:Pt->aD)(x0:an):aD:=J (.p0 x0 0 [])
def live:Nat->Live:=iD [(3,[(0,none),(3,some 3),(4,none)])]
def up:List Int->List Int
 | []=>[]
 | [a]=>[a]
 | a::b::r=>Z28.md a b::up r
def qB:∀l:List Int,(up l).length=(l.length+1) / 2
 | []=>by simp [up]
 | [_]=>by simp [up]
 | _::_::r=>by
  have:=qB r
  simp only [up,List.length_cons]
  omega
def md (a0:List Int):List Int:=up a0
def gd (a0:List Int):Prop:=bn (2^38) (fun y:Int=>True) a0
def R:=RR gd md
def aq {a0}(h:gd a0):R (a0.map bh)=some ((md a0).map bh):=dX h
def aV:=CN [pL 3] (oL 3) RT.dec R
def bH (a0)(hg:gd a0):∃n,start (iter step n) (a0.map bh)=ret ((md a0).map bh):=by
 obtain ⟨H1,_⟩:=hg
 have key:∀(k i:Nat) (c:List Int),i+k=a0.length->c.length<=i->∃n,iter step n (Pt.p0 (a0.map bh) (i:Int) (c.map bh))=ret ((c++up (a0.drop i)).map bh:an):=by
  intro k
  induction k using Nat.strongRecOn with
  | _ k ih=>
  intro i c hi hc
  match k,hi,ih with
  | 0,hi,_=>
   refine ⟨1,?_⟩
   show step (iter step 0) (Pt.p0 _ _ _)=_
   simp only [step,List.length_map]
   refine gu (decide_eq_false (by omega)) ?_
   rw [List.drop_eq_nil_of_le (by omega)]
   simp only [up,List.append_nil]
  | 1,hi,ih=>
   obtain ⟨n,hn⟩:=ih 0 (by omega) (i+1) (c++[a0.getD i 0]) (by omega) (by simp;omega)
   have h2:∃n,iter step n (Pt.p0 (a0.map bh) (i64.wrap ((i:Int)+2)) ((c++[a0.getD i 0]).map bh))=ret ((c++[a0.getD i 0]).map bh:an):=by
    refine ⟨1,?_⟩
    show step (iter step 0) (Pt.p0 _ _ _)=_
    simp only [step,List.length_map]
    refine gu (decide_eq_false ?_) rfl
    rw [Go.IntWalk.i64_in _ (by omega)];omega
   obtain ⟨n,hn⟩:=h2
   refine ⟨n+1,?_⟩
   show step (iter step n) (Pt.p0 _ _ _)=_
   simp only [step,List.length_map,jI,kV]
   refine aW (decide_eq_true (by omega)) (gu (decide_eq_false ?_) (aW (decide_eq_true (by omega)) (aW (decide_eq_true (by omega)) (aW (gq (by omega)) ?_))))
   ·rw [Go.IntWalk.i64_in _ (by omega)];omega
   ·rw [List.map_append] at hn
    refine Eq.trans hn ?_
    rw [List.drop_eq_getElem_cons (by omega),List.drop_eq_nil_of_le (by omega),eF (by omega:i<a0.length)]
    simp only [up,List.map_append]
  | k+2,hi,ih=>
   obtain ⟨n,hn⟩:=ih k (by omega) (i+2) (c++[Z28.md (a0.getD i 0) (a0.getD (i+1) 0)]) (by omega) (by simp;omega)
   refine ⟨n+1,?_⟩
   show step (iter step n) (Pt.p0 _ _ _)=_
   have w1:i64.wrap ((i:Int)+1)=((i+1:Nat):Int):=by rw [Go.IntWalk.i64_in _ (by omega)];omega
   have w2:i64.wrap ((i:Int)+2)=((i+2:Nat):Int):=by rw [Go.IntWalk.i64_in _ (by omega)];omega
   simp only [step,List.length_map,w1,w2,jI,kV]
   refine aW (decide_eq_true (by omega)) (aW (decide_eq_true (by omega)) (aW (decide_eq_true (by omega)) (aW (decide_eq_true (by omega)) (aW (decide_eq_true (by omega)) (aW (decide_eq_true (by omega)) ?_)))))
   refine ec (Z28.md (a0.getD i 0) (a0.getD (i+1) 0)) (Z28.aq trivial) (aW (gq (by omega)) ?_)
   rw [List.map_append] at hn
   refine Eq.trans hn ?_
   rw [List.drop_eq_getElem_cons (by omega:i<a0.length),List.drop_eq_getElem_cons (by omega:i+1<a0.length),eF (by omega:i<a0.length),eF (by omega:i+1<a0.length)]
   simp only [up,List.append_assoc,List.cons_append,List.nil_append]
 have:=key a0.length 0 [] (by omega) (by simp)
 unfold start md
 simpa using this
def ah:cY 235 aV:=L1 38 (fun _=>3) cZ eD live step start mix aJ bH (dV Z28.ah) Tryz.func235
end Z29
namespace Z30
inductive Pt where
 | p0 (a:an)
 | p1 (a:an)
def cZ:Pt->List V
 | .p0 a=>[.sl none 3 a]
 | .p1 a=>[.own 0]
def eD:Pt->List aK
 | .p0 a=>[]
 | .p1 a=>[.row 3 a]
def step (J:Pt->aD):Pt->aD
 | .p0 a=>(cond ((a.length:Int)>1) (call (Z29.R a) fun v1=>J (.p1 v1)) (cX ((0:Int)<(a.length:Int)) (ret ((iE a 0):Int))))
 | .p1 a=>(cond ((a.length:Int)>1) (call (Z29.R a) fun v1=>J (.p1 v1)) (cX ((0:Int)<(a.length:Int)) (ret ((iE a 0):Int))))
def start (J:Pt->aD)(x0:an):aD:=(cond ((x0.length:Int)==0) (call (Z21.R [[L.int 229]]) fun v1=>ret (v1:Int)) (J (.p0 x0)))
def live:Nat->Live:=iD [(4,[(3,none)])]
def top:Nat->List Int->Int
 | 0,l=>l.getD 0 0
 | k+1,l=>if l.length>1 then top k (Z29.up l) else l.getD 0 0
def md (a0:List Int):Int:=(if a0.length=0 then Z21.md [229] else top a0.length a0)
def gd (a0:List Int):Prop:=bn (2^38) (fun y:Int=>True) a0
def R:=RR gd md
def aq {a0}(h:gd a0):R (a0.map bh)=some (md a0):=dX h
def aV:=CN [pL 3] oI RT.dec R
def bH (a0)(hg:gd a0):∃n,start (iter step n) (a0.map bh)=ret (md a0):=by
 have one:∀(l:List Int) (r:Int) (n:Nat),bn (2^38) (fun y:Int=>True) l->0<l.length->(if l.length>1 then iter step n (Pt.p1 ((Z29.up l).map bh))=ret r else ret (l.getD 0 0:Int)=ret r)->step (iter step n) (Pt.p0 (l.map bh))=ret r/\step (iter step n) (Pt.p1 (l.map bh))=ret r:=by
  intro l r n hl hp h
  simp only [step,List.length_map,kV]
  by_cases h1:l.length>1
  ·rw [if_pos h1] at h
   have hx:∀y:aD,(cond ((l.length:Int)>1) (call (Z29.R (l.map bh)) (fun v1=>iter step n (Pt.p1 v1))) y)=ret r:=fun y=>
    aW (decide_eq_true (by omega)) (ec ((Z29.up l).map bh) (Z29.aq hl) h)
   exact ⟨hx _,hx _⟩
  ·rw [if_neg h1] at h
   have hx:∀y:aD,(cond ((l.length:Int)>1) y (cond ((0:Int)<(l.length:Int)) (ret (l.getD 0 0:Int)) none))=ret r:=fun y=>
    gu (decide_eq_false (by omega)) (aW (decide_eq_true (by omega)) h)
   exact ⟨hx _,hx _⟩
 have key:∀(k:Nat) (l:List Int),bn (2^38) (fun y:Int=>True) l->0<l.length->l.length<=k+1->∃n,step (iter step n) (Pt.p0 (l.map bh))=ret (top k l)/\step (iter step n) (Pt.p1 (l.map bh))=ret (top k l):=by
  intro k
  induction k with
  | zero=>
   intro l hl hp hk
   exact ⟨0,one l _ 0 hl hp (by rw [if_neg (by omega)];rfl)⟩
  | succ k ih=>
   intro l hl hp hk
   by_cases h1:l.length>1
   ·have hu:=Z29.qB l
    have hl1:=hl.1
    obtain ⟨n,_,hn⟩:=ih (Z29.up l) ⟨by omega,fun _ _=>trivial⟩ (by omega) (by omega)
    refine ⟨n+1,one l _ (n+1) hl hp ?_⟩
    rw [if_pos h1]
    refine Eq.trans hn ?_
    unfold top
    rw [if_pos h1]
    cases k<;>rfl
   ·refine ⟨0,one l _ 0 hl hp ?_⟩
    rw [if_neg h1]
    unfold top
    rw [if_neg h1]
 unfold md
 unfold start
 simp only [List.length_map]
 by_cases h0:a0.length=0
 ·have e:((a0.length:Int)==0)=true:=by simpa using List.length_eq_zero_iff.1 h0
  refine ⟨0,?_⟩
  rw [e]
  refine ec (Z21.md [229]) (Z21.aq (a0:=[229]) ⟨by decide,fun _ _=>trivial⟩) ?_
  rw [if_pos h0]
 ·have e:((a0.length:Int)==0)=false:=beq_eq_false_iff_ne.2 (by omega)
  obtain ⟨n,hn,_⟩:=key a0.length a0 hg (by omega) (by omega)
  refine ⟨n+1,?_⟩
  rw [e,if_neg h0]
  exact hn
def ah:cY 219 aV:=L1 18 (fun _=>4) cZ eD live step start mix aJ bH (gH Z21.ah Z29.ah) Tryz.func219
end Z30
namespace Z31
def F (x0 x1:Int):aD:=(call (Z21.R [[L.int 231],[L.int x0],[L.int x1]]) fun v1=>ret (v1:Int))
def md (a0 a1:Int):Int:=((Z21.md [231,a0,a1]):Int)
def gd (a0 a1:Int):Prop:=True
def R:=eA gd md
def aq {a0 a1}(h:gd a0 a1):R (a0,a1)=some (md a0 a1):=eB h
def aV:=CN [pI,pI] oI RT.dec R
def bH (a0)(a1)(hg:gd a0 a1):F a0 a1=ret (md a0 a1):=by
 unfold F md
 try simp only [SS]
 refine ec (Z21.md [231,a0,a1]) (rq (Z21.aq (a0:=[231,a0,a1]) ⟨(om),fun _ _=>trivial⟩)) ?_
 all_goals exact fz
def ah:cY 218 aV:=W2 9 F mix aJ bH (dV Z21.ah) Tryz.func218
end Z31
namespace Z32
def F (x0:an):aD:=(call (Z27.R x0) fun v1=>(call (Z30.R v1) fun v2=>(call (Z31.R ((x0.length:Int),v2)) fun v3=>ret (v3:Int))))
def md (a0:List aa):Int:=((Z31.md (a0.length:Int) (Z30.md (Z27.md a0))):Int)
def gd (a0:List aa):Prop:=(bn (2^21) (fun y:aa=>aa.Sm (2^21) y) a0)
def R:=RR gd md
def aq {a0}(h:gd a0):R (a0.map aa.row)=some (md a0):=dX h
def aV:=CN [pL 53] oI RT.dec R
def bH (a0)(hg:gd a0):F (a0.map aa.row)=ret (md a0):=by
 unfold gd at hg
 have H0:=hg
 unfold F md
 try simp only [SS]
 refine ct (Z27.aq H0) ?_
 try simp only [SS]
 refine ct (Z30.aq ⟨(have:=Z27.len a0;have:=(H0).1;om),fun _ _=>trivial⟩) ?_
 refine ct (Z31.aq trivial) ?_
 all_goals exact fz
def ah:cY 181 aV:=W1 9 F mix aJ bH (nD Z27.ah Z30.ah Z31.ah) Tryz.func181
end Z32
namespace Z33
def F (x0:bl):aD:=(cX (fu ((x0.bR.length:Int)*8)) (ret (x0:bl)))
def md (a0:aM):aM:=a0
def gd (a0:aM):Prop:=(aM.Sm (2^21) a0)
def R:=RR gd md
def aq {a0}(h:gd a0):R (aM.r a0)=some (aM.r a0):=dX h
def aV:=CN [.agg xz] (.agg f31) RT.dec R
def bH (a0)(hg:gd a0):F (aM.r a0)=ret (aM.r (md a0)):=by
 unfold gd at hg
 have H0:=hg
 unfold F md
 try simp only [SS]
 refine aW (have:=(H0).1;lm) ?_
 all_goals exact fz
def ah:cY 90 aV:=W1 10 F mix aJ bH .nil Tryz.func90
end Z33
namespace Z34
inductive Pt where
 | p0 (a:Int) (b:bl)
def cZ:Pt->List V
 | .p0 a b=>[.bK 0 0,.int .i64 a]
def eD:Pt->List aK
 | .p0 a b=>[.box [.sl none 3 b.bR,.int .i64 b.dR]]
def step (J:Pt->aD):Pt->aD
 | .p0 a b=>(cond (a<(b.bR.length:Int)) (m2 a (b.bR.length:Int) (call (Z11.R ((iE b.bR (toNat a)),1,99)) fun v1=>(cond (!v1) aS (cond (a>0) (cX ((0:Int)<=(i64.wrap (a - 1))) (cX ((i64.wrap (a - 1))<(b.bR.length:Int)) (m2 a (b.bR.length:Int) (cond ((iE b.bR (toNat (i64.wrap (a - 1))))>=(iE b.bR (toNat a))) aS (J (.p0 (i64.wrap (a+1)) b)))))) (J (.p0 (i64.wrap (a+1)) b)))))) (call (Z11.R ((b.bR.length:Int),1,4)) fun v2=>(cond v2 (call (Z11.R (b.dR,1,(b.bR.length:Int))) fun v3=>ret (v3:Bool)) aS)))
def start (J:Pt->aD)(x0:bl):aD:=J (.p0 0 x0)
def live:Nat->Live:=iD [(2,mN [1,3])]
def md (a0:aM):Bool:=(eP (S:=Unit) (β:=Bool) (fun (i1:Nat) (y1:Int) (s3:Unit)=>(cond (!(Z11.md y1 1 99)) (.inr (false:Bool)) (cond ((i1:Int)>0) (cond ((a0.bR.getD (toNat (i64.wrap ((i1:Int) - 1))) 0)>=y1) (.inr (false:Bool)) (.inl ())) (.inl ())))) (fun (s3:Unit)=>(cond (Z11.md (a0.bR.length:Int) 1 4) ((Z11.md a0.dR 1 (a0.bR.length:Int)):Bool) (false:Bool))) 0 a0.bR ())
def gd (a0:aM):Prop:=(aM.Sm (2^21) a0)
def R:=RR gd md
def aq {a0}(h:gd a0):R (aM.r a0)=some (md a0):=dX h
def aV:=CN [.agg xz] oB RT.dec R
def bH (a0)(hg:gd a0):∃n,start (iter step n) (aM.r a0)=ret (md a0):=by
 unfold gd at hg
 have H0:=hg
 unfold start md
 try simp only [SS]
 have Bh2:a0.bR.length<=maxLen:=(by
   have:=(H0).1
   try simp only [maxLen] at *
   omega)
 refine ex_eq (out:=ret) (dD (z:=0)) ?_
 refine dW (p:=Pt.p0 0 (aM.r a0)) fz ?_
 refine bV (pt:=fun (i1:Nat) (s3:Unit)=>Pt.p0 (i1:Int) (aM.r a0)) (s:=(():Unit)) (out:=ret) (fun _ _=>True) (fun J i1 s3 h2 hih2=>?_) (fun s3 hih2=>?_) trivial
 ·simp only [step,SS]
  have bb_:=Bh2
  simp only [maxLen] at bb_
  have:=(H0).1
  refine bf.yes (by apply decide_eq_true;omega) ?_
  refine bf.yes bA ?_
  refine bf.yes (bU h2) ?_
  refine cr (Z11.aq trivial) ?_
  refine bf.bif (fun _=>bf.inr rfl) (fun c4=>?_)
  have dc4:=c4
  try simp only [DC] at dc4
  have Dc4:=c4
  try simp [Z11.md] at Dc4
  refine bf.bif (fun c5=>?_) (fun c5=>?_)
  ·have dc5:=c5
   try simp only [DC] at dc5
   refine bf.yes dt ?_
   refine bf.yes (have:=(H0).1;dt) ?_
   refine bf.yes bA ?_
   refine bf.yes (bU h2) ?_
   refine bf.bif (fun _=>bf.inr rfl) (fun c6=>?_)
   refine bf.inl trivial ?_
   rw [aR h2 Bh2]
   all_goals exact fz
  ·refine bf.inl trivial ?_
   rw [aR h2 Bh2]
   all_goals exact fz
 ·simp only [step,SS]
  have:=(H0).1
  refine dQ (by apply decide_eq_false;omega) ?_
  refine cx (Z11.aq trivial) ?_
  refine iG ret (fun c7=>?_) (fun _=>⟨0,rfl⟩)
  refine cx (Z11.aq trivial) ?_
  refine ⟨0,?_⟩
  all_goals exact fz
def ah:cY 168 aV:=L1 48 (fun _=>2) cZ eD live step start mix aJ bH (dV Z11.ah) Tryz.func168
end Z34
namespace Z35
def F (x0:bl):aD:=(cond (x0.dR==0) (ret (((x0.bR.length:Int)==0):Bool)) aS)
def md (a0:aM):Bool:=(cond (a0.dR==0) (((a0.bR.length:Int)==0):Bool) (false:Bool))
def gd (a0:aM):Prop:=True
def R:=RR gd md
def aq {a0}(h:gd a0):R (aM.r a0)=some (md a0):=dX h
def aV:=CN [.agg xz] oB RT.dec R
def bH (a0)(hg:gd a0):F (aM.r a0)=ret (md a0):=by
 unfold F md
 try simp only [SS]
 refine au ret (fun c1=>?_) (fun _=>rfl)
 all_goals exact fz
def ah:cY 169 aV:=W1 12 F mix aJ bH .nil Tryz.func169
end Z35
namespace Z36
def F (x0:bz):aD:=(call (Z11.R (x0.bM,0,2147483646)) fun v1=>(cond (!v1) aS (call (Z11.R (x0.eu,0,2147483646)) fun v2=>(cond (!v2) aS (call (Z11.R (x0.eU,0,2147483646)) fun v3=>(cond (!v3) aS (call (Z11.R (x0.cV,0,200)) fun v4=>(cond (!v4) aS (call (Z11.R (x0.bp,1,3)) fun v5=>(cond (!v5) aS (call (Z11.R (x0.dy,0,100000)) fun v6=>(cond (!v6) aS (call (Z11.R (x0.dx,x0.dy,100000)) fun v7=>(cond (!v7) aS (cond ((i64.wrap (x0.dx - x0.dy))>200) aS (call (Z11.R (x0.cQ,0,12)) fun v8=>(cond (!v8) aS (call (Z34.R x0.cq) fun v9=>(cond (!v9) aS (call (Z35.R x0.cg) fun v10=>(cond v10 (cond (x0.ef != 0) aS (call (Z34.R x0.bZ) fun v11=>(cond v11 ff (call (Z35.R x0.bZ) fun v12=>(cond v12 (ret ((!x0.bO):Bool)) aS))))) (call (Z34.R x0.cg) fun v13=>(cond (!v13) aS (call (Z11.R (x0.ef,1,500)) fun v14=>(cond (!v14) aS (call (Z34.R x0.bZ) fun v15=>(cond v15 ff (call (Z35.R x0.bZ) fun v16=>(cond v16 (ret ((!x0.bO):Bool)) aS)))))))))))))))))))))))))))))
def md (a0:ay):Bool:=(cond (!(Z11.md a0.bM 0 2147483646)) (false:Bool) (cond (!(Z11.md a0.eu 0 2147483646)) (false:Bool) (cond (!(Z11.md a0.eU 0 2147483646)) (false:Bool) (cond (!(Z11.md a0.cV 0 200)) (false:Bool) (cond (!(Z11.md a0.bp 1 3)) (false:Bool) (cond (!(Z11.md a0.dy 0 100000)) (false:Bool) (cond (!(Z11.md a0.dx a0.dy 100000)) (false:Bool) (cond ((i64.wrap (a0.dx - a0.dy))>200) (false:Bool) (cond (!(Z11.md a0.cQ 0 12)) (false:Bool) (cond (!(Z34.md a0.cq)) (false:Bool) (cond (Z35.md a0.cg) (cond (a0.ef != 0) (false:Bool) (cond (Z34.md a0.bZ) (true:Bool) (cond (Z35.md a0.bZ) ((!a0.bO):Bool) (false:Bool)))) (cond (!(Z34.md a0.cg)) (false:Bool) (cond (!(Z11.md a0.ef 1 500)) (false:Bool) (cond (Z34.md a0.bZ) (true:Bool) (cond (Z35.md a0.bZ) ((!a0.bO):Bool) (false:Bool))))))))))))))))
def gd (a0:ay):Prop:=(ay.Sm (2^21) a0)
def R:=RR gd md
def aq {a0}(h:gd a0):R (ay.r a0)=some (md a0):=dX h
def aV:=CN [.agg sZ] oB RT.dec R
def bH (a0)(hg:gd a0):F (ay.r a0)=ret (md a0):=by
 unfold gd at hg
 have H0:=hg
 unfold F md
 try simp only [SS]
 refine ct (Z11.aq trivial) ?_
 refine au ret (fun _=>rfl) (fun c1=>?_)
 refine ct (Z11.aq trivial) ?_
 refine au ret (fun _=>rfl) (fun c2=>?_)
 refine ct (Z11.aq trivial) ?_
 refine au ret (fun _=>rfl) (fun c3=>?_)
 refine ct (Z11.aq trivial) ?_
 refine au ret (fun _=>rfl) (fun c4=>?_)
 refine ct (Z11.aq trivial) ?_
 refine au ret (fun _=>rfl) (fun c5=>?_)
 refine ct (Z11.aq trivial) ?_
 refine au ret (fun _=>rfl) (fun c6=>?_)
 refine ct (Z11.aq trivial) ?_
 refine au ret (fun _=>rfl) (fun c7=>?_)
 refine au ret (fun _=>rfl) (fun c8=>?_)
 refine ct (Z11.aq trivial) ?_
 refine au ret (fun _=>rfl) (fun c9=>?_)
 refine ct (Z34.aq H0.1) ?_
 refine au ret (fun _=>rfl) (fun c10=>?_)
 refine ct (Z35.aq trivial) ?_
 refine au ret (fun c11=>?_) (fun c11=>?_)
 ·refine au ret (fun _=>rfl) (fun c12=>?_)
  refine ct (Z34.aq H0.2.2) ?_
  refine au ret (fun _=>rfl) (fun c13=>?_)
  refine ct (Z35.aq trivial) ?_
  refine au ret (fun c14=>?_) (fun _=>rfl)
  all_goals exact fz
 ·refine ct (Z34.aq H0.2.1) ?_
  refine au ret (fun _=>rfl) (fun c15=>?_)
  refine ct (Z11.aq trivial) ?_
  refine au ret (fun _=>rfl) (fun c16=>?_)
  refine ct (Z34.aq H0.2.2) ?_
  refine au ret (fun _=>rfl) (fun c17=>?_)
  refine ct (Z35.aq trivial) ?_
  refine au ret (fun c18=>?_) (fun _=>rfl)
  all_goals exact fz
def ah:cY 133 aV:=W1 92 F mix aJ bH (nD Z11.ah Z34.ah Z35.ah) Tryz.func133
def tr {a0:ay}(h:md a0=true):(1<=a0.bp/\a0.bp<=3)/\0<=a0.dy/\a0.dy<=a0.dx/\a0.dx<=100000/\0<=a0.cQ/\a0.cQ<=12:=by
 have key:∀x y z:Int,Z11.md x y z=true->y<=x/\x<=z:=fun x y z h=>by simpa [Z11.md] using h
 unfold md at h
 simp only [DZ,Bool.not_not,Bool.and_eq_true] at h
 obtain ⟨_,_,_,_,h5,h6,h7,_,h8,_⟩:=h
 have:=key _ _ _ h5
 have:=key _ _ _ h6
 have:=key _ _ _ h7
 have:=key _ _ _ h8
 omega
end Z36
namespace Z37
def F (x0:bl)(x1:Int)(x2:an)(x3 x4:Int):aD:=(call (Z15.R x2) fun v1=>(cond (!v1) (ret (((⟨0,0,0,0,0,0,0,0,(⟨[],0⟩:bl),(⟨[],0⟩:bl),0,(⟨[],0⟩:bl),false⟩:bz),false):bz×Bool)) (call (Z11.R (x3,0,100000)) fun v2=>(cond (!v2) (ret (((⟨0,0,0,0,0,0,0,0,(⟨[],0⟩:bl),(⟨[],0⟩:bl),0,(⟨[],0⟩:bl),false⟩:bz),false):bz×Bool)) (call (Z11.R (x4,0,200)) fun v3=>(cond (!v3) (ret (((⟨0,0,0,0,0,0,0,0,(⟨[],0⟩:bl),(⟨[],0⟩:bl),0,(⟨[],0⟩:bl),false⟩:bz),false):bz×Bool)) (call (Z22.R (x0,x1)) fun v4=>(call (Z32.R x2) fun v5=>(call (Z33.R x0) fun v6=>(call (Z36.R (⟨v4,0,1,x3,(i64.wrap (x3+x4)),(x2.length:Int),v5,x1,v6,(⟨[],0⟩:bl),0,(⟨[],0⟩:bl),false⟩:bz)) fun v7=>(cond (!v7) (ret (((⟨0,0,0,0,0,0,0,0,(⟨[],0⟩:bl),(⟨[],0⟩:bl),0,(⟨[],0⟩:bl),false⟩:bz),false):bz×Bool)) (ret (((⟨v4,0,1,x3,(i64.wrap (x3+x4)),(x2.length:Int),v5,x1,v6,(⟨[],0⟩:bl),0,(⟨[],0⟩:bl),false⟩:bz),true):bz×Bool)))))))))))))
def md (a0:aM)(a1:Int)(a2:List aa)(a3 a4:Int):ay×Bool:=(cond (!(Z15.md a2)) ((⟨0,0,0,0,0,0,0,0,(⟨[],0⟩:aM),(⟨[],0⟩:aM),0,(⟨[],0⟩:aM),false⟩:ay),false) (cond (!(Z11.md a3 0 100000)) ((⟨0,0,0,0,0,0,0,0,(⟨[],0⟩:aM),(⟨[],0⟩:aM),0,(⟨[],0⟩:aM),false⟩:ay),false) (cond (!(Z11.md a4 0 200)) ((⟨0,0,0,0,0,0,0,0,(⟨[],0⟩:aM),(⟨[],0⟩:aM),0,(⟨[],0⟩:aM),false⟩:ay),false) (cond (!(Z36.md (⟨(Z22.md a0 a1),0,1,a3,(i64.wrap (a3+a4)),(a2.length:Int),(Z32.md a2),a1,a0,(⟨[],0⟩:aM),0,(⟨[],0⟩:aM),false⟩:ay))) ((⟨0,0,0,0,0,0,0,0,(⟨[],0⟩:aM),(⟨[],0⟩:aM),0,(⟨[],0⟩:aM),false⟩:ay),false) ((⟨(Z22.md a0 a1),0,1,a3,(i64.wrap (a3+a4)),(a2.length:Int),(Z32.md a2),a1,a0,(⟨[],0⟩:aM),0,(⟨[],0⟩:aM),false⟩:ay),true)))))
def gd (a0:aM)(a1:Int)(a2:List aa)(a3 a4:Int):Prop:=(aM.Sm (2^21) a0)/\(bn (2^21) (fun y:aa=>aa.Sm (2^21) y) a2)
def R:=zk gd md
def aq {a0 a1 a2 a3 a4}(h:gd a0 a1 a2 a3 a4):R ((aM.r a0),a1,(a2.map aa.row),a3,a4)=some ((ay.r (md a0 a1 a2 a3 a4).1),(md a0 a1 a2 a3 a4).2):=zB h
def aV:=CN [.agg xz,pI,pL 53,pI,pI] (.gK [(true,f35),(false,[fB])]) RT.dec R
def bH (a0)(a1)(a2)(a3)(a4)(hg:gd a0 a1 a2 a3 a4):F (aM.r a0) a1 (a2.map aa.row) a3 a4=ret ((ay.r (md a0 a1 a2 a3 a4).1),(md a0 a1 a2 a3 a4).2):=by
 obtain ⟨H0,H2⟩:=hg
 unfold F md
 try simp only [SS]
 refine ct (Z15.aq H2) ?_
 refine au (fun b:ay×Bool=>ret (((ay.r b.1),b.2):bz×Bool)) (fun c1=>?_) (fun c1=>?_)
 ·all_goals exact fz
 ·refine ct (Z11.aq trivial) ?_
  refine au (fun b:ay×Bool=>ret (((ay.r b.1),b.2):bz×Bool)) (fun c2=>?_) (fun c2=>?_)
  ·all_goals exact fz
  ·refine ct (Z11.aq trivial) ?_
   refine au (fun b:ay×Bool=>ret (((ay.r b.1),b.2):bz×Bool)) (fun c3=>?_) (fun c3=>?_)
   ·all_goals exact fz
   ·refine ct (Z22.aq H0) ?_
    refine ct (Z32.aq H2) ?_
    refine ct (Z33.aq H0) ?_
    try simp only [SS]
    have h1:ay.Sm (2^21) ((⟨(Z22.md a0 a1),0,1,a3,(i64.wrap (a3+a4)),(a2.length:Int),(Z32.md a2),a1,a0,(⟨[],0⟩:aM),0,(⟨[],0⟩:aM),false⟩:ay)):=⟨H0,bn.nil,bn.nil⟩
    have h2:=Z36.aq (a0:=(⟨(Z22.md a0 a1),0,1,a3,(i64.wrap (a3+a4)),(a2.length:Int),(Z32.md a2),a1,a0,(⟨[],0⟩:aM),0,(⟨[],0⟩:aM),false⟩:ay)) h1
    simp only [ay.r] at h2
    refine ct h2 ?_
    refine au (fun b:ay×Bool=>ret (((ay.r b.1),b.2):bz×Bool)) (fun c4=>?_) (fun c4=>?_)
    ·all_goals exact fz
    ·simp only [ay.r];rfl
def ah:cY 179 aV:=W5 47 F mix aJ bH (vN Z15.ah Z11.ah Z22.ah Z32.ah Z33.ah Z36.ah) Tryz.func179
def fY {a0:aM}{a1:Int}{a2:List aa}{a3 a4:Int}(hg:gd a0 a1 a2 a3 a4):ay.Sm (2^21) ((md a0 a1 a2 a3 a4).1):=by
 unfold gd at hg
 unfold md
 simp only [Bool.cond_eq_ite]
 repeat' split
 all_goals first | exact ⟨bn.nil,bn.nil,bn.nil⟩ | exact ⟨hg.1,bn.nil,bn.nil⟩
end Z37
namespace Z38
def F (x0:bz):aD:=(call (Z33.R x0.cq) fun v1=>(call (Z33.R x0.cg) fun v2=>(call (Z33.R x0.bZ) fun v3=>ret ((⟨x0.bM,x0.cV,x0.bp,x0.dy,x0.dx,x0.cQ,x0.eu,x0.eU,v1,v2,x0.ef,v3,x0.bO⟩:bz):bz))))
def md (a0:ay):ay:=a0
def gd (a0:ay):Prop:=(ay.Sm (2^21) a0)
def R:=RR gd md
def aq {a0}(h:gd a0):R (ay.r a0)=some (ay.r a0):=dX h
def aV:=CN [.agg sZ] (.agg f35) RT.dec R
def bH (a0)(hg:gd a0):F (ay.r a0)=ret (ay.r (md a0)):=by
 unfold gd at hg
 have H0:=hg
 unfold F md
 try simp only [SS]
 refine ct (Z33.aq H0.1) ?_
 try simp only [SS]
 refine ct (Z33.aq H0.2.1) ?_
 try simp only [SS]
 refine ct (Z33.aq H0.2.2) ?_
 try simp only [SS]
 all_goals exact fz
def ah:cY 39 aV:=W1 18 F mix aJ bH (dV Z33.ah) Tryz.func39
end Z38
namespace Z39
def F (x0:bz):aD:=(call (Z19.R x0.cq) fun v1=>(cX (fu (((8:Int)+(v1.length:Int))*8)) (call (Z19.R x0.cg) fun v2=>(cX (fu (((([[L.int x0.bM],[L.int x0.cV],[L.int x0.bp],[L.int x0.dy],[L.int x0.dx],[L.int x0.cQ],[L.int x0.eu],[L.int x0.eU]]++v1).length:Int)+(v2.length:Int))*8)) (cX (fu ((((([[L.int x0.bM],[L.int x0.cV],[L.int x0.bp],[L.int x0.dy],[L.int x0.dx],[L.int x0.cQ],[L.int x0.eu],[L.int x0.eU]]++v1)++v2).length:Int)+1)*8)) (call (Z19.R x0.bZ) fun v3=>(cX (fu (((((([[L.int x0.bM],[L.int x0.cV],[L.int x0.bp],[L.int x0.dy],[L.int x0.dx],[L.int x0.cQ],[L.int x0.eu],[L.int x0.eU]]++v1)++v2)++[[L.int x0.ef]]).length:Int)+(v3.length:Int))*8)) (cond x0.bO (cX (fu ((((((([[L.int x0.bM],[L.int x0.cV],[L.int x0.bp],[L.int x0.dy],[L.int x0.dx],[L.int x0.cQ],[L.int x0.eu],[L.int x0.eU]]++v1)++v2)++[[L.int x0.ef]])++v3).length:Int)+1)*8)) (ret (((((([[L.int x0.bM],[L.int x0.cV],[L.int x0.bp],[L.int x0.dy],[L.int x0.dx],[L.int x0.cQ],[L.int x0.eu],[L.int x0.eU]]++v1)++v2)++[[L.int x0.ef]])++v3)++[[L.int 1]]):an))) (cX (fu ((((((([[L.int x0.bM],[L.int x0.cV],[L.int x0.bp],[L.int x0.dy],[L.int x0.dx],[L.int x0.cQ],[L.int x0.eu],[L.int x0.eU]]++v1)++v2)++[[L.int x0.ef]])++v3).length:Int)+1)*8)) (ret (((((([[L.int x0.bM],[L.int x0.cV],[L.int x0.bp],[L.int x0.dy],[L.int x0.dx],[L.int x0.cQ],[L.int x0.eu],[L.int x0.eU]]++v1)++v2)++[[L.int x0.ef]])++v3)++[[L.int 0]]):an)))))))))))
def md (a0:ay):List Int:=(cond a0.bO ((((([a0.bM,a0.cV,a0.bp,a0.dy,a0.dx,a0.cQ,a0.eu,a0.eU]++(Z19.md a0.cq))++(Z19.md a0.cg))++[a0.ef])++(Z19.md a0.bZ))++[1]) ((((([a0.bM,a0.cV,a0.bp,a0.dy,a0.dx,a0.cQ,a0.eu,a0.eU]++(Z19.md a0.cq))++(Z19.md a0.cg))++[a0.ef])++(Z19.md a0.bZ))++[0]))
def gd (a0:ay):Prop:=(ay.Sm (2^21) a0)
def R:=RR gd md
def aq {a0}(h:gd a0):R (ay.r a0)=some ((md a0).map bh):=dX h
def aV:=CN [.agg sZ] (oL 3) RT.dec R
def bH (a0)(hg:gd a0):F (ay.r a0)=ret ((md a0).map bh):=by
 unfold gd at hg
 have H0:=hg
 unfold F md
 try simp only [SS]
 refine ct (Z19.aq H0.1) ?_
 try simp only [SS]
 refine aW (have:=Z19.len a0.cq;have:=(H0.1).1;lm) ?_
 refine ct (Z19.aq H0.2.1) ?_
 try simp only [SS]
 refine aW (have:=Z19.len a0.cq;have:=(H0.1).1;have:=Z19.len a0.cg;have:=(H0.2.1).1;lm) ?_
 refine aW (have:=Z19.len a0.cq;have:=(H0.1).1;have:=Z19.len a0.cg;have:=(H0.2.1).1;lm) ?_
 refine ct (Z19.aq H0.2.2) ?_
 try simp only [SS]
 refine aW (have:=Z19.len a0.cq;have:=(H0.1).1;have:=Z19.len a0.cg;have:=(H0.2.1).1;have:=Z19.len a0.bZ;have:=(H0.2.2).1;lm) ?_
 refine au (fun b:List Int=>ret ((b.map bh):an)) (fun c1=>?_) (fun c1=>?_)
 ·refine aW (have:=Z19.len a0.cq;have:=(H0.1).1;have:=Z19.len a0.cg;have:=(H0.2.1).1;have:=Z19.len a0.bZ;have:=(H0.2.2).1;lm) ?_
  all_goals exact fz
 ·refine aW (have:=Z19.len a0.cq;have:=(H0.1).1;have:=Z19.len a0.cg;have:=(H0.2.1).1;have:=Z19.len a0.bZ;have:=(H0.2.2).1;lm) ?_
  all_goals exact fz
def ah:cY 136 aV:=W1 49 F mix aJ bH (dV Z19.ah) Tryz.func136
def len (a0:ay):(md a0).length=16+a0.cq.bR.length+a0.cg.bR.length+a0.bZ.bR.length:=by unfold md;cases a0.bO<;>simp [Z19.md]<;>omega
def C5 {k l:aM}{x y:List Int}(h:Z19.md k++x=Z19.md l++y):k=l/\x=y:=by
 obtain ⟨kl,kn⟩:=k
 obtain ⟨ll,ln⟩:=l
 simp only [Z19.md,List.cons_append,List.nil_append,List.cons.injEq] at h
 obtain ⟨h1,h2,h3⟩:=h
 obtain ⟨h4,h5⟩:=List.append_inj h3 (by omega)
 exact ⟨by rw [h1,h4],h5⟩
def yP (a:ay):md a=a.bM::a.cV::a.bp::a.dy::a.dx::a.cQ::a.eu::a.eU::(Z19.md a.cq++(Z19.md a.cg++(a.ef::(Z19.md a.bZ++[bif a.bO then 1 else 0])))):=by
 unfold md
 cases a.bO<;>simp only [aL,aT,List.append_assoc,List.cons_append,List.nil_append]
def inj {a b:ay}(h:md a=md b):a=b:=by
 rw [yP,yP] at h
 simp only [List.cons.injEq] at h
 obtain ⟨g1,g2,g3,g4,g5,g6,g7,g8,g9⟩:=h
 obtain ⟨k1,g9⟩:=C5 g9
 obtain ⟨k2,g9⟩:=C5 g9
 simp only [List.cons.injEq] at g9
 obtain ⟨k3,g9⟩:=g9
 obtain ⟨k4,g9⟩:=C5 g9
 have k5:a.bO=b.bO:=by
  simp only [List.cons.injEq,and_true] at g9
  revert g9
  cases a.bO<;>cases b.bO<;>simp
 cases a;cases b
 simp only [ay.mk.injEq]
 exact ⟨g1,g2,g3,g4,g5,g6,g7,g8,k1,k2,k3,k4,k5⟩
end Z39
namespace Z40
inductive Pt where
 | p0 (a:an) (b c:Int)
def cZ:Pt->List V
 | .p0 a b c=>[.sl none 3 a,.int .i64 b,.int .i64 c]
def step (J:Pt->aD):Pt->aD
 | .p0 a b c=>(cond (c<(a.length:Int)) (m2 c (a.length:Int) (cond ((iE a (toNat c))==b) ff (J (.p0 a b (i64.wrap (c+1)))))) aS)
def start (J:Pt->aD)(x0:an)(x1:Int):aD:=J (.p0 x0 x1 0)
def live:Nat->Live:=iD [(2,mN [0,1,5])]
def md (a0:List Int)(a1:Int):Bool:=(eI (S:=Unit) (β:=Bool) (fun (y1:Int) (s3:Unit)=>(cond (y1==a1) (.inr (true:Bool)) (.inl ()))) (fun (s3:Unit)=>(false:Bool)) a0 ())
def gd (a0:List Int)(a1:Int):Prop:=(bn (2^38) (fun y:Int=>True) a0)
def R:=eA gd md
def aq {a0 a1}(h:gd a0 a1):R ((a0.map bh),a1)=some (md a0 a1):=eB h
def aV:=CN [pL 3,pI] oB RT.dec R
def bH (a0)(a1)(hg:gd a0 a1):∃n,start (iter step n) (a0.map bh) a1=ret (md a0 a1):=by
 unfold gd at hg
 have H0:=hg
 unfold start md
 try simp only [SS]
 have Bh2:a0.length<=maxLen:=(by
   have:=(H0).1
   try simp only [maxLen] at *
   omega)
 refine ex_eq (out:=ret) (eo (z:=0)) ?_
 refine dW (p:=Pt.p0 (a0.map bh) a1 0) fz ?_
 refine bV (pt:=fun (i1:Nat) (s3:Unit)=>Pt.p0 (a0.map bh) a1 (i1:Int)) (s:=(():Unit)) (out:=ret) (fun _ _=>True) (fun J i1 s3 h2 hih2=>?_) (fun s3 hih2=>?_) trivial
 ·simp only [step,SS]
  have bb_:=Bh2
  simp only [maxLen] at bb_
  have:=(H0).1
  refine bf.yes (by apply decide_eq_true;omega) ?_
  refine bf.yes bA ?_
  refine bf.yes (bU h2) ?_
  refine bf.bif (fun _=>bf.inr rfl) (fun c4=>?_)
  refine bf.inl trivial ?_
  rw [aR h2 Bh2]
  all_goals exact fz
 ·simp only [step,SS]
  have:=(H0).1
  refine dQ (by apply decide_eq_false;omega) ?_
  refine ⟨0,?_⟩
  all_goals exact fz
def ah:cY 100 aV:=L2 18 (fun _=>2) cZ (fun _=>[]) live step start mix aJ bH .nil Tryz.func100
end Z40
namespace Z41
def F (x0:Int)(x1:an):aD:=(cX (fu (((1:Int)+(x1.length:Int))*8)) (cX (fu (((([[L.int x0]]++x1).length:Int)+1)*8)) (call (Z21.R (([[L.int x0]]++x1)++[[L.int x0]])) fun v1=>ret (v1:Int))))
def md (a0:Int)(a1:List Int):Int:=((Z21.md (([a0]++a1)++[a0])):Int)
def gd (a0:Int)(a1:List Int):Prop:=(bn (2^40) (fun y:Int=>True) a1)
def R:=eA gd md
def aq {a0 a1}(h:gd a0 a1):R (a0,(a1.map bh))=some (md a0 a1):=eB h
def aV:=CN [pI,pL 3] oI RT.dec R
def bH (a0)(a1)(hg:gd a0 a1):F a0 (a1.map bh)=ret (md a0 a1):=by
 unfold gd at hg
 have H1:=hg
 unfold F md
 try simp only [SS]
 refine aW (have:=(H1).1;lm) ?_
 refine aW (have:=(H1).1;lm) ?_
 refine ec (Z21.md (([a0]++a1)++[a0])) (rq (Z21.aq (a0:=(([a0]++a1)++[a0])) ⟨(have:=(H1).1;om),fun _ _=>trivial⟩)) ?_
 all_goals exact fz
def ah:cY 237 aV:=W2 13 F mix aJ bH (dV Z21.ah) Tryz.func237
end Z41
namespace Z42
def F (x0:Int)(x1:an):aD:=(cX (fu (((1:Int)+(x1.length:Int))*8)) (call (Z41.R (x0,([[L.int 223]]++x1))) fun v1=>ret (v1:Int)))
def md (a0:Int)(a1:List Int):Int:=((Z41.md a0 ([223]++a1)):Int)
def gd (a0:Int)(a1:List Int):Prop:=(bn (2^39) (fun y:Int=>True) a1)
def R:=eA gd md
def aq {a0 a1}(h:gd a0 a1):R (a0,(a1.map bh))=some (md a0 a1):=eB h
def aV:=CN [pI,pL 3] oI RT.dec R
def bH (a0)(a1)(hg:gd a0 a1):F a0 (a1.map bh)=ret (md a0 a1):=by
 unfold gd at hg
 have H1:=hg
 unfold F md
 try simp only [SS]
 refine aW (have:=(H1).1;lm) ?_
 refine ec (Z41.md a0 ([223]++a1)) (rq (Z41.aq (a0:=a0) (a1:=([223]++a1)) ⟨(have:=(H1).1;om),fun _ _=>trivial⟩)) ?_
 all_goals exact fz
def ah:cY 221 aV:=W2 10 F mix aJ bH (dV Z41.ah) Tryz.func221
end Z42
namespace Z43
inductive Pt where
 | p0 (a b:an) (c:Int) (d:bl) (e:an)
def cZ:Pt->List V
 | .p0 a b c d e=>[.sl none 3 a,.sl none 3 b,.bK 0 0,.own 1,.int .i64 c]
def eD:Pt->List aK
 | .p0 a b c d e=>[.box [.sl none 3 d.bR,.int .i64 d.dR],.row 209 e]
def step (J:Pt->aD):Pt->aD
 | .p0 a b c d e=>(cond (c<(d.bR.length:Int)) (m2 c (d.bR.length:Int) (call (Z40.R (a,(iE d.bR (toNat c)))) fun v1=>(cond v1 (m2 c (d.bR.length:Int) (m2 c (d.bR.length:Int) (call (Z42.R ((iE d.bR (toNat c)),b)) fun v2=>(cX (fu (((e.length:Int)+1)*16)) (J (.p0 a b (i64.wrap (c+1)) d (e++[(cz.enc (⟨(iE d.bR (toNat c)),v2⟩:cz))]))))))) (J (.p0 a b (i64.wrap (c+1)) d e))))) (ret (e:an)))
def start (J:Pt->aD)(x0:an)(x1:bl)(x2:an):aD:=J (.p0 x0 x2 0 x1 [])
def live:Nat->Live:=iD [(3,[(0,none),(2,none),(4,none),(7,some 209),(8,none)])]
def md (a0:List Int)(a1:aM)(a2:List Int):List cz:=(eI (S:=List cz) (β:=List cz) (fun (y1:Int) (s3:List cz)=>(cond (Z40.md a0 y1) (.inl (s3++[(⟨y1,(Z42.md y1 a2)⟩:cz)])) (.inl s3))) (fun (s3:List cz)=>s3) a1.bR [])
def gd (a0:List Int)(a1:aM)(a2:List Int):Prop:=(bn (2^38) (fun y:Int=>True) a0)/\(aM.Sm (2^21) a1)/\(bn (2^38) (fun y:Int=>True) a2)
def R:=ot gd md
def aq {a0 a1 a2}(h:gd a0 a1 a2):R ((a0.map bh),(aM.r a1),(a2.map bh))=some ((md a0 a1 a2).map cz.row):=nZ h
def aV:=CN [pL 3,.agg xz,pL 3] (oL 209) RT.dec R
def bH (a0) (a1) (a2) (hg : gd a0 a1 a2) : ∃ n, start (iter step n) (a0.map bh) (aM.r a1) (a2.map bh) = ret ((md a0 a1 a2).map cz.row) := by
  obtain ⟨H0, H1, H2⟩ := hg
  unfold start md
  try simp only [SS]
  have Bh2 : a1.bR.length <= maxLen := (by
      have := (H1).1
      try simp only [maxLen] at *
      omega)
  refine ex_eq (out := (fun b : List cz => ret ((b.map cz.row) : an))) (eo (z := 0)) ?_
  refine dW (p := Pt.p0 (a0.map bh) (a2.map bh) 0 (aM.r a1) ([].map cz.row)) fz ?_
  refine bV (pt := fun (i1 : Nat) (s3 : List cz) => Pt.p0 (a0.map bh) (a2.map bh) (i1 : Int) (aM.r a1) (s3.map cz.row)) (s := ([] : List cz)) (out := (fun b : List cz => ret ((b.map cz.row) : an))) (fun (i1 : Nat) (s3 : List cz) => s3.length <= ([] : List Int).length + 1 * i1) (fun J i1 s3 h2 hih2 => ?_) (fun s3 hih2 => ?_) (by simp)
  · simp only [step, SS]
    have gr_ := hih2
    try simp only [LN] at gr_
    have bb_ := Bh2
    simp only [maxLen] at bb_
    have := (H1).1
    refine bf.yes (by apply decide_eq_true; omega) ?_
    refine bf.yes bA ?_
    refine bf.yes (bU h2) ?_
    refine cr (Z40.aq H0) ?_
    refine bf.bif (fun c4 => ?_) (fun c4 => ?_)
    · refine bf.yes bA ?_
      refine bf.yes (bU h2) ?_
      refine bf.yes bA ?_
      refine bf.yes (bU h2) ?_
      refine cr (Z42.aq (H2.mono (by decide) (fun x hx => trivial))) ?_
      refine bf.yes lm ?_
      refine bf.inl (by
          have g_ := hih2
          try simp only [LN] at g_ ⊢
          first | omega | (simp; done) | (simp; omega)) ?_
      rw [aR h2 Bh2]
      all_goals exact fz
    · refine bf.inl (by
          have g_ := hih2
          try simp only [LN] at g_ ⊢
          first | omega | (simp; done) | (simp; omega)) ?_
      rw [aR h2 Bh2]
      all_goals exact fz
  · simp only [step, SS]
    have gr_ := hih2
    try simp only [LN] at gr_
    have := (H1).1
    refine dQ (by apply decide_eq_false; omega) ?_
    refine ⟨0, ?_⟩
    all_goals exact fz
def ah:cY 184 aV:=L3 41 (fun _=>3) cZ eD live step start mix aJ bH (gH Z40.ah Z42.ah) Tryz.func184
def D4 (a0:List Int)(a1:aM)(a2:List Int):(md a0 a1 a2).length<=a1.bR.length:=by
 have h:=uw (f:=fun (y1:Int) (s3:List cz)=>(cond (Z40.md a0 y1) (.inl (s3++[(⟨y1,(Z42.md y1 a2)⟩:cz)])) (.inl s3))) (fun y s=>by
  cases Z40.md a0 y
  ·exact ⟨s,.inl rfl,Nat.le_succ _⟩
  ·exact ⟨_,.inl rfl,by simp⟩) a1.bR []
 simpa [md] using h
end Z43
namespace Z44
def F (x0:an)(x1:bl)(x2:bz):aD:=(call (Z38.R x2) fun v1=>(call (Z39.R x2) fun v2=>(call (Z43.R (x0,x1,v2)) fun v3=>ret ((⟨v1,v3⟩:aY):aY))))
def md (a0:List Int)(a1:aM)(a2:ay):af:=(⟨a2,(Z43.md a0 a1 (Z39.md a2))⟩:af)
def gd (a0:List Int)(a1:aM)(a2:ay):Prop:=(bn (2^38) (fun y:Int=>True) a0)/\(aM.Sm (2^21) a1)/\(ay.Sm (2^21) a2)
def R:=ot gd md
def aq {a0 a1 a2}(h:gd a0 a1 a2):R ((a0.map bh),(aM.r a1),(ay.r a2))=some (af.r (md a0 a1 a2)):=nZ h
def aV:=CN [pL 3,.agg xz,.agg sZ] (.agg f78) RT.dec R
def bH (a0)(a1)(a2)(hg:gd a0 a1 a2):F (a0.map bh) (aM.r a1) (ay.r a2)=ret (af.r (md a0 a1 a2)):=by
 obtain ⟨H0,H1,H2⟩:=hg
 unfold F md
 try simp only [SS]
 refine ct (Z38.aq H2) ?_
 try simp only [SS]
 refine ct (Z39.aq H2) ?_
 try simp only [SS]
 refine ct (Z43.aq ⟨H0,H1,⟨(have:=Z39.len a2;have:=(H2.1).1;have:=(H2.2.1).1;have:=(H2.2.2).1;om),fun _ _=>trivial⟩⟩) ?_
 try simp only [SS]
 all_goals exact fz
def ah:cY 143 aV:=W3 15 F mix aJ bH (nD Z38.ah Z39.ah Z43.ah) Tryz.func143
def fY {a0:List Int}{a1:aM}{a2:ay}(hg:gd a0 a1 a2):af.Sm (2^21) (md a0 a1 a2):=by
 unfold gd at hg
 exact ⟨hg.2.2,le_trans (Z43.D4 _ _ _) hg.2.1.1,fun _ _=>trivial⟩
def BA {k:Nat}{a0:List Int}{a1:aM}{a2:ay}(h1:aM.Sm k a1)(h2:ay.Sm k a2):af.Sm k (md a0 a1 a2):=
 ⟨h2,le_trans (Z43.D4 _ _ _) h1.1,fun _ _=>trivial⟩
end Z44
namespace Z45
def F (x0:bl)(x1:Int)(x2:an)(x3 x4:Int):aD:=(call (Z37.R (x0,x1,x2,x3,x4)) fun v1=>(cond (!v1.2) (ret (((⟨[],[]⟩:bS),false):bS×Bool)) (call (Z44.R (x0.bR,x0,v1.1)) fun v2=>(call (Z16.R x2) fun v3=>ret (((⟨[(aY.enc v2)],v3⟩:bS),true):bS×Bool)))))
def md (a0:aM)(a1:Int)(a2:List aa)(a3 a4:Int):aN×Bool:=(cond (!(Z37.md a0 a1 a2 a3 a4).2) ((⟨[],[]⟩:aN),false) ((⟨[(Z44.md a0.bR a0 ((Z37.md a0 a1 a2 a3 a4).1))],a2⟩:aN),true))
def gd (a0:aM)(a1:Int)(a2:List aa)(a3 a4:Int):Prop:=(aM.Sm (2^21) a0)/\(bn (2^21) (fun y:aa=>aa.Sm (2^21) y) a2)
def R:=zk gd md
def aq {a0 a1 a2 a3 a4}(h:gd a0 a1 a2 a3 a4):R ((aM.r a0),a1,(a2.map aa.row),a3,a4)=some ((aN.r (md a0 a1 a2 a3 a4).1),(md a0 a1 a2 a3 a4).2):=zB h
def aV:=CN [.agg xz,pI,pL 53,pI,pI] (.gK [(true,f139),(false,[fB])]) RT.dec R
def bH (a0)(a1)(a2)(a3)(a4)(hg:gd a0 a1 a2 a3 a4):F (aM.r a0) a1 (a2.map aa.row) a3 a4=ret ((aN.r (md a0 a1 a2 a3 a4).1),(md a0 a1 a2 a3 a4).2):=by
 obtain ⟨H0,H2⟩:=hg
 unfold F md
 try simp only [SS]
 refine ct (Z37.aq ⟨H0,H2⟩) ?_
 try simp only [SS]
 refine au (fun b:aN×Bool=>ret (((aN.r b.1),b.2):bS×Bool)) (fun c1=>?_) (fun c1=>?_)
 ·all_goals exact fz
 ·refine ct (Z44.aq ⟨(H0.mono (by decide) (fun x hx=>trivial)),H0,(Z37.fY (a0:=a0) (a1:=a1) (a2:=a2) (a3:=a3) (a4:=a4) ⟨H0,H2⟩)⟩) ?_
  try simp only [SS]
  refine ct (Z16.aq H2) ?_
  try simp only [SS]
  all_goals exact fz
def ah:cY 144 aV:=W5 35 F mix aJ bH (nD Z37.ah Z44.ah Z16.ah) Tryz.func144
def Eh (a0:Int):0<=Z20.md a0 2147483647/\Z20.md a0 2147483647<2147483647:=by
 have h:=Int.tmod_lt_of_pos a0 (b:=2147483647) (by decide)
 have h2:-2147483647<Int.tmod a0 2147483647:=by
  have:=Int.tmod_lt_of_pos (-a0) (b:=2147483647) (by decide)
  rw [Int.neg_tmod] at this;omega
 have e:Z20.md a0 2147483647=Int.tmod (i64.wrap (Int.tmod a0 2147483647+2147483647)) 2147483647:=rfl
 rw [e,wi _ (by omega)]
 exact rD (by omega) (by decide)
def CS (a0:List Int):0<=Z21.md a0/\Z21.md a0<2147483647:=by
 have key:∀(xs:List Int) (s:Int),0<=s->s<2147483647->0<=eI (S:=Int) (β:=Int) (fun (y1:Int) (s3:Int)=>(.inl (Int.tmod (i64.wrap ((i64.wrap ((i64.wrap (s3*1000003))+(Z20.md y1 2147483647)))+13)) 2147483647))) (fun (s3:Int)=>(s3:Int)) xs s/\eI (S:=Int) (β:=Int) (fun (y1:Int) (s3:Int)=>(.inl (Int.tmod (i64.wrap ((i64.wrap ((i64.wrap (s3*1000003))+(Z20.md y1 2147483647)))+13)) 2147483647))) (fun (s3:Int)=>(s3:Int)) xs s<2147483647:=by
  intro xs
  induction xs with
  | nil=>intro s h1 h2;exact ⟨h1,h2⟩
  | cons x xs ih=>
   intro s h1 h2
   have h3:=Eh x
   have h4:0<=Int.tmod (i64.wrap ((i64.wrap ((i64.wrap (s*1000003))+(Z20.md x 2147483647)))+13)) 2147483647/\Int.tmod (i64.wrap ((i64.wrap ((i64.wrap (s*1000003))+(Z20.md x 2147483647)))+13)) 2147483647<2147483647:=by
    rw [wi (s*1000003) (by omega),wi (s*1000003+Z20.md x 2147483647) (by omega),wi _ (by omega)]
    exact rD (by omega) (by decide)
   exact ih _ h4.1 h4.2
 exact key a0 11 (by decide) (by decide)
def ok (z:aN):Prop:=(1<=z.aI.length/\bn 12 (fun y:af=>af.Sm 64 y) z.aI)/\bn 12 (fun y:aa=>aa.Sm 64 y) z.ck/\Z15.md z.ck=true
def AP {z:aN}(h:ok z):aN.Sm 64 z:=⟨h.1.2.mono (by decide) fun _ h=>h,h.2.1.mono (by decide) fun _ h=>h⟩
def xN {k s:Int}{l:List aa}{now term:Int}(hk:1<=k/\k<=99)(hs:0<=s/\s<=2147483646)(hn:0<=now)(ht:0<=term/\term<=200)(hm:now+term<=100000)(hl:∀z∈l,aa.Sm 64 z)(ha:Z15.md l=true):ok (md ⟨[k],1⟩ s l now term).1:=by
 have inr:∀{x a b:Int},a<=x/\x<=b->Z11.md x a b=true:=fun h=>by simp [Z11.md];exact h
 have hz:=CS ([239,s]++Z19.md ⟨[k],1⟩)
 have hr:=CS [231,(l.length:Int),Z30.md (Z27.md l)]
 have h12:=Z15.tr ha
 have hik:Z34.md ⟨[k],1⟩=true:=by
  unfold Z34.md
  simp only [eP,inr hk,Bool.not_true,aT]
  rfl
 have e:Z37.md ⟨[k],1⟩ s l now term=(⟨Z22.md ⟨[k],1⟩ s,0,1,now,i64.wrap (now+term),(l.length:Int),Z32.md l,s,⟨[k],1⟩,⟨[],0⟩,0,⟨[],0⟩,false⟩,true):=by
  unfold Z37.md
  have e1:Z11.md now 0 100000=true:=inr (by omega)
  have e2:Z11.md term 0 200=true:=inr ht
  have hh:Z36.md ⟨Z22.md ⟨[k],1⟩ s,0,1,now,i64.wrap (now+term),(l.length:Int),Z32.md l,s,⟨[k],1⟩,⟨[],0⟩,0,⟨[],0⟩,false⟩=true:=by
   unfold Z36.md
   have a1:Z11.md (Z22.md ⟨[k],1⟩ s) 0 2147483646=true:=inr (by unfold Z22.md;omega)
   have a2:Z11.md (Z32.md l) 0 2147483646=true:=inr (by unfold Z32.md Z31.md;omega)
   have a3:Z11.md s 0 2147483646=true:=inr hs
   have a4:Z11.md now 0 100000=true:=e1
   have a5:Z11.md (i64.wrap (now+term)) now 100000=true:=inr (by rw [wi _ (by omega)];omega)
   have a6:decide (i64.wrap (i64.wrap (now+term) - now)>200)=false:=by
    rw [wi (now+term) (by omega),wi _ (by omega)];apply decide_eq_false;omega
   have a7:Z11.md (l.length:Int) 0 12=true:=inr (by omega)
   simp only [a1,a2,a3,a4,a5,a6,a7,hik,Bool.not_true,aT]
   rfl
  rw [ha,e1,e2,hh]
  rfl
 have hSm:aM.Sm 64 ⟨[k],1⟩:=⟨(show (1:Nat)<=64 by decide),fun _ _=>trivial⟩
 unfold md
 rw [e]
 refine ⟨⟨Nat.le_refl _,(show (1:Nat)<=12 by decide),?_⟩,⟨h12,hl⟩,ha⟩
 intro x hx
 have hx:x=_:=List.mem_singleton.1 hx
 rw [hx]
 exact Z44.BA hSm ⟨hSm,bn.nil,bn.nil⟩
end Z45
namespace Z46
def F (x0:cz)(x1:an):aD:=(call (Z11.R (x0.sD,1,99)) fun v1=>(cond v1 (call (Z42.R (x0.sD,x1)) fun v2=>ret ((x0.yj==v2):Bool)) aS))
def md (a0:cz)(a1:List Int):Bool:=(cond (Z11.md a0.sD 1 99) ((a0.yj==(Z42.md a0.sD a1)):Bool) (false:Bool))
def gd (a0:cz)(a1:List Int):Prop:=(bn (2^38) (fun y:Int=>True) a1)
def R:=eA gd md
def aq {a0 a1}(h:gd a0 a1):R (a0,(a1.map bh))=some (md a0 a1):=eB h
def aV:=CN [.agg DR,pL 3] oB RT.dec R
def bH (a0)(a1)(hg:gd a0 a1):F a0 (a1.map bh)=ret (md a0 a1):=by
 unfold gd at hg
 have H1:=hg
 unfold F md
 try simp only [SS]
 refine ct (Z11.aq trivial) ?_
 refine au ret (fun c1=>?_) (fun _=>rfl)
 refine ct (Z42.aq (H1.mono (by decide) (fun x hx=>trivial))) ?_
 all_goals exact fz
def ah:cY 215 aV:=W2 17 F mix aJ bH (gH Z11.ah Z42.ah) Tryz.func215
end Z46
namespace Z47
inductive Pt where
 | p0 (a b:an) (c d:Int) (e:bl)
 | p1 (a b:an) (c d e:Int) (f:bl)
def pid:Pt->Nat
 | .p0 ..=>3
 | .p1 ..=>6
def cZ:Pt->List V
 | .p0 a b c d e=>[.sl none 3 a,.sl none 209 b,.bK 0 0,.int .i64 c,.int .i64 d]
 | .p1 a b c d e f=>[.sl none 3 a,.sl none 209 b,.bK 0 0,.int .i64 c,.int .i64 d,.int .i64 e]
def eD:Pt->List aK
 | .p0 a b c d e=>[.box [.sl none 3 e.bR,.int .i64 e.dR]]
 | .p1 a b c d e f=>[.box [.sl none 3 f.bR,.int .i64 f.dR]]
def step (J:Pt->aD):Pt->aD
 | .p0 a b c d e=>(cond (d<(e.bR.length:Int)) (J (.p1 a b c d 0 e)) (ret (c:Int)))
 | .p1 a b c d e f=>(cond (e<(b.length:Int)) (m2 e (b.length:Int) (m2 d (f.bR.length:Int) (cond ((cz.at b (toNat e)).sD==(iE f.bR (toNat d))) (m2 e (b.length:Int) (call (Z46.R ((cz.at b (toNat e)),a)) fun v1=>(cond v1 (J (.p0 a b (i64.wrap (c+1)) (i64.wrap (d+1)) f)) (J (.p1 a b c d (i64.wrap (e+1)) f))))) (J (.p1 a b c d (i64.wrap (e+1)) f))))) (J (.p0 a b c (i64.wrap (d+1)) f)))
def start (J:Pt->aD)(x0:bl)(x1 x2:an):aD:=J (.p0 x1 x2 0 0 x0)
def live:Nat->Live:=iD [(3,mN [1,2,3,7,8]),(6,mN [1,2,3,7,8,9])]
def md (a0:aM)(a1:List Int)(a2:List cz):Int:=(eI (S:=Int) (β:=Int) (fun (y1:Int) (s3:Int)=>(eI (S:=Unit) (β:=(Int⊕Int)) (fun (y5:cz) (s7:Unit)=>(cond (y5.sD==y1) (cond (Z46.md y5 a1) (.inr (.inl (i64.wrap (s3+1)))) (.inl ())) (.inl ()))) (fun (s7:Unit)=>(.inl s3)) a2 ())) (fun (s3:Int)=>(s3:Int)) a0.bR 0)
def gd (a0:aM)(a1:List Int)(a2:List cz):Prop:=(aM.Sm (2^21) a0)/\(bn (2^38) (fun y:Int=>True) a1)/\(bn (2^21) (fun y:cz=>cz.Sm (2^21) y) a2)
def R:=ot gd md
def aq {a0 a1 a2}(h:gd a0 a1 a2):R ((aM.r a0),(a1.map bh),(a2.map cz.row))=some (md a0 a1 a2):=nZ h
def aV:=CN [.agg xz,pL 3,pL 209] oI RT.dec R
def bH (a0)(a1)(a2)(hg:gd a0 a1 a2):∃n,start (iter step n) (aM.r a0) (a1.map bh) (a2.map cz.row)=ret (md a0 a1 a2):=by
 obtain ⟨H0,H1,H2⟩:=hg
 unfold start md
 try simp only [SS]
 have Bh2:a0.bR.length<=maxLen:=(by
   have:=(H0).1
   try simp only [maxLen] at *
   omega)
 refine ex_eq (out:=ret) (eo (z:=0)) ?_
 refine dW (p:=Pt.p0 (a1.map bh) (a2.map cz.row) 0 0 (aM.r a0)) fz ?_
 refine vU (pt:=fun (i1:Nat) (s3:Int)=>Pt.p0 (a1.map bh) (a2.map cz.row) s3 (i1:Int) (aM.r a0)) (s:=(0:Int)) (out:=ret) (fun _ _=>True) (fun i1 s3 h2 hih2 K4 hK4 rK4=>?_) (fun s3 hih2=>?_) trivial
 ·simp only [step,SS]
  have bb_:=Bh2
  simp only [maxLen] at bb_
  have:=(H0).1
  refine fJ (by apply decide_eq_true;omega) ?_
  have Bh6:a2.length<=maxLen:=(by
    have:=(H2).1
    try simp only [maxLen] at *
    omega)
  refine ex_eq (out:=K4) (eo (z:=cz.zero)) ?_
  refine dW (p:=Pt.p1 (a1.map bh) (a2.map cz.row) s3 (i1:Int) 0 (aM.r a0)) fz ?_
  refine vU (pt:=fun (i5:Nat) (s7:Unit)=>Pt.p1 (a1.map bh) (a2.map cz.row) s3 (i1:Int) (i5:Int) (aM.r a0)) (s:=(():Unit)) (out:=K4) (fun _ _=>True) (fun i5 s7 h6 hih6 K8 hK8 rK8=>?_) (fun s7 hih6=>?_) trivial
  ·simp only [step,SS]
   have bb_:=Bh6
   simp only [maxLen] at bb_
   have:=(H2).1
   refine fJ (by apply decide_eq_true;omega) ?_
   refine fJ bA ?_
   refine fJ (bU h6) ?_
   refine fJ dt ?_
   refine fJ (have:=(H0).1;dt) ?_
   refine iG K8 (fun c9=>?_) (fun c9=>?_)
   ·refine fJ bA ?_
    refine fJ (bU h6) ?_
    refine cx (Z46.aq H1) ?_
    refine iG K8 (fun c10=>?_) (fun c10=>?_)
    ·rw [rK8]
     rw [aR h2 Bh2]
     first | exact hK4 _ trivial | (simp only [SS];exact hK4 _ trivial) | (simp only [MP];exact hK4 _ trivial)
    ·rw [aR h6 Bh6]
     first | exact hK8 _ trivial | (simp only [SS];exact hK8 _ trivial) | (simp only [MP];exact hK8 _ trivial)
   ·rw [aR h6 Bh6]
    first | exact hK8 _ trivial | (simp only [SS];exact hK8 _ trivial) | (simp only [MP];exact hK8 _ trivial)
  ·simp only [step,SS]
   have:=(H2).1
   refine dQ (by apply decide_eq_false;omega) ?_
   rw [aR h2 Bh2]
   first | exact hK4 _ trivial | (simp only [SS];exact hK4 _ trivial) | (simp only [MP];exact hK4 _ trivial)
 ·simp only [step,SS]
  have:=(H0).1
  refine dQ (by apply decide_eq_false;omega) ?_
  refine ⟨0,?_⟩
  all_goals exact fz
def ah:cY 172 aV:=L3 45 pid cZ eD live step start mix aJ bH (dV Z46.ah) Tryz.func172
end Z47
namespace Z48
def F (x0:bl)(x1 x2:an):aD:=(call (Z34.R x0) fun v1=>(cond v1 (call (Z47.R (x0,x1,x2)) fun v2=>ret ((decide (v2>=x0.dR)):Bool)) aS))
def md (a0:aM)(a1:List Int)(a2:List cz):Bool:=(cond (Z34.md a0) ((decide ((Z47.md a0 a1 a2)>=a0.dR)):Bool) (false:Bool))
def gd (a0:aM)(a1:List Int)(a2:List cz):Prop:=(aM.Sm (2^21) a0)/\(bn (2^38) (fun y:Int=>True) a1)/\(bn (2^21) (fun y:cz=>cz.Sm (2^21) y) a2)
def R:=ot gd md
def aq {a0 a1 a2}(h:gd a0 a1 a2):R ((aM.r a0),(a1.map bh),(a2.map cz.row))=some (md a0 a1 a2):=nZ h
def aV:=CN [.agg xz,pL 3,pL 209] oB RT.dec R
def bH (a0)(a1)(a2)(hg:gd a0 a1 a2):F (aM.r a0) (a1.map bh) (a2.map cz.row)=ret (md a0 a1 a2):=by
 obtain ⟨H0,H1,H2⟩:=hg
 unfold F md
 try simp only [SS]
 refine ct (Z34.aq H0) ?_
 refine au ret (fun c1=>?_) (fun _=>rfl)
 refine ct (Z47.aq ⟨H0,H1,H2⟩) ?_
 all_goals exact fz
def ah:cY 135 aV:=W3 18 F mix aJ bH (gH Z34.ah Z47.ah) Tryz.func135
end Z48
namespace Z49
def F (x0:aY):aD:=(call (Z36.R x0.aG) fun v1=>(cond v1 (cond (x0.aG.cV==0) (cond (x0.aG.bp==1) (cond (!x0.aG.bO) (call (Z22.R (x0.aG.cq,x0.aG.eU)) fun v2=>(cond (x0.aG.bM==v2) (call (Z39.R x0.aG) fun v3=>(call (Z48.R (x0.aG.cq,v3,x0.eE)) fun v4=>ret (v4:Bool))) aS)) aS) aS) aS) aS))
def md (a0:af):Bool:=(cond (Z36.md a0.aG) (cond (a0.aG.cV==0) (cond (a0.aG.bp==1) (cond (!a0.aG.bO) (cond (a0.aG.bM==(Z22.md a0.aG.cq a0.aG.eU)) ((Z48.md a0.aG.cq (Z39.md a0.aG) a0.eE):Bool) (false:Bool)) (false:Bool)) (false:Bool)) (false:Bool)) (false:Bool))
def gd (a0:af):Prop:=(af.Sm (2^21) a0)
def R:=RR gd md
def aq {a0}(h:gd a0):R (af.r a0)=some (md a0):=dX h
def aV:=CN [.agg CV] oB RT.dec R
def bH (a0)(hg:gd a0):F (af.r a0)=ret (md a0):=by
 unfold gd at hg
 have H0:=hg
 unfold F md
 try simp only [SS]
 refine ct (Z36.aq H0.1) ?_
 refine au ret (fun c1=>?_) (fun _=>rfl)
 try have tc1:=Z36.tr (by simpa using c1)
 refine au ret (fun c2=>?_) (fun _=>rfl)
 have dc2:=c2
 try simp only [DC] at dc2
 refine au ret (fun c3=>?_) (fun _=>rfl)
 have dc3:=c3
 try simp only [DC] at dc3
 refine au ret (fun c4=>?_) (fun _=>rfl)
 have dc4:=c4
 try simp only [DC] at dc4
 refine ct (Z22.aq H0.1.1) ?_
 refine au ret (fun c5=>?_) (fun _=>rfl)
 have dc5:=c5
 try simp only [DC] at dc5
 refine ct (Z39.aq H0.1) ?_
 try simp only [SS]
 refine ct (Z48.aq ⟨H0.1.1,⟨(have:=Z39.len a0.aG;have:=(H0.1.1).1;have:=(H0.1.2.1).1;have:=(H0.1.2.2).1;om),fun _ _=>trivial⟩,H0.2⟩) ?_
 all_goals exact fz
def ah:cY 91 aV:=W1 42 F mix aJ bH (tG Z36.ah Z22.ah Z39.ah Z48.ah) Tryz.func91
end Z49
namespace Z50
def F (x0:bz):aD:=(call (Z39.R x0) fun v1=>(cX (fu (((1:Int)+(v1.length:Int))*8)) (call (Z21.R ([[L.int 233]]++v1)) fun v2=>ret (v2:Int))))
def md (a0:ay):Int:=((Z21.md ([233]++(Z39.md a0))):Int)
def gd (a0:ay):Prop:=(ay.Sm (2^21) a0)
def R:=RR gd md
def aq {a0}(h:gd a0):R (ay.r a0)=some (md a0):=dX h
def aV:=CN [.agg sZ] oI RT.dec R
def bH (a0)(hg:gd a0):F (ay.r a0)=ret (md a0):=by
 unfold gd at hg
 have H0:=hg
 unfold F md
 try simp only [SS]
 refine ct (Z39.aq H0) ?_
 try simp only [SS]
 refine aW (have:=Z39.len a0;have:=(H0.1).1;have:=(H0.2.1).1;have:=(H0.2.2).1;lm) ?_
 refine ec (Z21.md ([233]++(Z39.md a0))) (rq (Z21.aq (a0:=([233]++(Z39.md a0))) ⟨(have:=Z39.len a0;have:=(H0.1).1;have:=(H0.2.1).1;have:=(H0.2.2).1;om),fun _ _=>trivial⟩)) ?_
 all_goals exact fz
def ah:cY 173 aV:=W1 8 F mix aJ bH (gH Z39.ah Z21.ah) Tryz.func173
end Z50
namespace Z51
def F (x0 x1:bz):aD:=(cond x0.bO (ret (4:Int)) (cond x1.bO (ret (6:Int)) (ret (1:Int))))
def md (a0 a1:ay):Int:=(cond a0.bO (4:Int) (cond a1.bO (6:Int) (1:Int)))
def gd (a0 a1:ay):Prop:=True
def R:=eA gd md
def aq {a0 a1}(h:gd a0 a1):R ((ay.r a0),(ay.r a1))=some (md a0 a1):=eB h
def aV:=CN [.agg sZ,.agg sZ] oI RT.dec R
def bH (a0)(a1)(hg:gd a0 a1):F (ay.r a0) (ay.r a1)=ret (md a0 a1):=by
 unfold F md
 try simp only [SS]
 refine au ret (fun _=>rfl) (fun c1=>?_)
 refine au ret (fun _=>rfl) (fun _=>rfl)
def ah:cY 174 aV:=W2 11 F mix aJ bH .nil Tryz.func174
end Z51
namespace Z52
inductive Pt where
 | p0 (a b:an) (c:Int)
def cZ:Pt->List V
 | .p0 a b c=>[.sl none 3 a,.sl none 3 b,.int .i64 c]
def step (J:Pt->aD):Pt->aD
 | .p0 a b c=>(cond (c<(a.length:Int)) (m2 c (a.length:Int) (m2 c (b.length:Int) (cond ((iE a (toNat c)) != (iE b (toNat c))) aS (J (.p0 a b (i64.wrap (c+1))))))) ff)
def start (J:Pt->aD)(x0 x1:an):aD:=(cond ((x0.length:Int) != (x1.length:Int)) aS (J (.p0 x0 x1 0)))
def live:Nat->Live:=iD [(4,mN [0,1,5])]
def md (a0 a1:List Int):Bool:=(bif ((a0.length:Int) != (a1.length:Int)) then (false:Bool) else (eW (S:=Unit) (β:=Bool) (fun (i2:Nat) (s4:Unit)=>(cond ((a0.getD i2 0) != (a1.getD i2 0)) (.inr (false:Bool)) (.inl ()))) (fun (s4:Unit)=>(true:Bool)) a0.length 0 ()))
def gd (a0 a1:List Int):Prop:=(bn (2^38) (fun y:Int=>True) a0)/\(bn (2^38) (fun y:Int=>True) a1)
def R:=eA gd md
def aq {a0 a1}(h:gd a0 a1):R ((a0.map bh),(a1.map bh))=some (md a0 a1):=eB h
def aV:=CN [pL 3,pL 3] oB RT.dec R
def bH (a0)(a1)(hg:gd a0 a1):∃n,start (iter step n) (a0.map bh) (a1.map bh)=ret (md a0 a1):=by
 obtain ⟨H0,H1⟩:=hg
 unfold start md
 try simp only [SS]
 refine iG ret (fun _=>⟨0,rfl⟩) (fun c1=>?_)
 have dc1:=c1
 try simp only [DC] at dc1
 have Bh3:a0.length<=maxLen:=(by
   have:=(H0).1
   try simp only [maxLen] at *
   omega)
 refine dW (p:=Pt.p0 (a0.map bh) (a1.map bh) 0) fz ?_
 refine bV (pt:=fun (i2:Nat) (s4:Unit)=>Pt.p0 (a0.map bh) (a1.map bh) (i2:Int)) (s:=(():Unit)) (out:=ret) (fun _ _=>True) (fun J i2 s4 h3 hih3=>?_) (fun s4 hih3=>?_) trivial
 ·simp only [step,SS]
  have bb_:=Bh3
  simp only [maxLen] at bb_
  have:=(H0).1
  refine bf.yes (by apply decide_eq_true;omega) ?_
  refine bf.yes bA ?_
  refine bf.yes (bU h3) ?_
  refine bf.yes bA ?_
  refine bf.yes (have:=(H1).1;dt) ?_
  refine bf.bif (fun _=>bf.inr rfl) (fun c5=>?_)
  refine bf.inl trivial ?_
  rw [aR h3 Bh3]
  all_goals exact fz
 ·simp only [step,SS]
  have:=(H0).1
  refine dQ (by apply decide_eq_false;omega) ?_
  refine ⟨0,?_⟩
  all_goals exact fz
def ah:cY 225 aV:=L2 26 (fun _=>4) cZ (fun _=>[]) live step start mix aJ bH .nil Tryz.func225
def md_eq (a0 a1:List Int):md a0 a1=pY a0 a1:=by
 unfold md
 refine pF (0) (fun i s h h2=>?_) (fun s=>rfl)
 simp only [bne,rG,bool_beq,nT]
 cases pY _ _<;>rfl
end Z52
namespace Z53
def F (x0 x1:bl):aD:=(cond (x0.dR==x1.dR) (call (Z52.R (x0.bR,x1.bR)) fun v1=>ret (v1:Bool)) aS)
def md (a0 a1:aM):Bool:=(cond (a0.dR==a1.dR) ((Z52.md a0.bR a1.bR):Bool) (false:Bool))
def gd (a0 a1:aM):Prop:=(aM.Sm (2^21) a0)/\(aM.Sm (2^21) a1)
def R:=eA gd md
def aq {a0 a1}(h:gd a0 a1):R ((aM.r a0),(aM.r a1))=some (md a0 a1):=eB h
def aV:=CN [.agg xz,.agg xz] oB RT.dec R
def bH (a0)(a1)(hg:gd a0 a1):F (aM.r a0) (aM.r a1)=ret (md a0 a1):=by
 obtain ⟨H0,H1⟩:=hg
 unfold F md
 try simp only [SS]
 refine au ret (fun c1=>?_) (fun _=>rfl)
 refine ct (Z52.aq ⟨(H0.mono (by decide) (fun x hx=>trivial)),(H1.mono (by decide) (fun x hx=>trivial))⟩) ?_
 all_goals exact fz
def ah:cY 216 aV:=W2 17 F mix aJ bH (dV Z52.ah) Tryz.func216
end Z53
namespace Z54
def F (x0 x1:bz):aD:=(cond (x0.cQ==x1.cQ) (ret ((x0.eu==x1.eu):Bool)) aS)
def md (a0 a1:ay):Bool:=(cond (a0.cQ==a1.cQ) ((a0.eu==a1.eu):Bool) (false:Bool))
def gd (a0 a1:ay):Prop:=True
def R:=eA gd md
def aq {a0 a1}(h:gd a0 a1):R ((ay.r a0),(ay.r a1))=some (md a0 a1):=eB h
def aV:=CN [.agg sZ,.agg sZ] oB RT.dec R
def bH (a0)(a1)(hg:gd a0 a1):F (ay.r a0) (ay.r a1)=ret (md a0 a1):=by
 unfold F md
 try simp only [SS]
 refine au ret (fun c1=>?_) (fun _=>rfl)
 all_goals exact fz
def ah:cY 217 aV:=W2 17 F mix aJ bH .nil Tryz.func217
end Z54
namespace Z55
def F (x0 x1:bz):aD:=(cond x0.bO (ret (4:Int)) (call (Z35.R x0.cg) fun v1=>(cond v1 (ret (5:Int)) (cond (x1.dy<(i64.wrap (x0.dx+x0.ef))) (ret (5:Int)) (cond x1.bO (ret (6:Int)) (call (Z53.R (x1.cq,x0.cg)) fun v2=>(cond (!v2) (ret (6:Int)) (call (Z54.R (x1,x0)) fun v3=>(cond (!v3) (ret (6:Int)) (ret (1:Int)))))))))))
def md (a0 a1:ay):Int:=(cond a0.bO (4:Int) (cond (Z35.md a0.cg) (5:Int) (cond (a1.dy<(i64.wrap (a0.dx+a0.ef))) (5:Int) (cond a1.bO (6:Int) (cond (!(Z53.md a1.cq a0.cg)) (6:Int) (cond (!(Z54.md a1 a0)) (6:Int) (1:Int)))))))
def gd (a0 a1:ay):Prop:=(ay.Sm (2^21) a0)/\(ay.Sm (2^21) a1)
def R:=eA gd md
def aq {a0 a1}(h:gd a0 a1):R ((ay.r a0),(ay.r a1))=some (md a0 a1):=eB h
def aV:=CN [.agg sZ,.agg sZ] oI RT.dec R
def bH (a0)(a1)(hg:gd a0 a1):F (ay.r a0) (ay.r a1)=ret (md a0 a1):=by
 obtain ⟨H0,H1⟩:=hg
 unfold F md
 try simp only [SS]
 refine au ret (fun _=>rfl) (fun c1=>?_)
 refine ct (Z35.aq trivial) ?_
 refine au ret (fun _=>rfl) (fun c2=>?_)
 refine au ret (fun _=>rfl) (fun c3=>?_)
 refine au ret (fun _=>rfl) (fun c4=>?_)
 refine ct (Z53.aq ⟨H1.1,H0.2.1⟩) ?_
 refine au ret (fun _=>rfl) (fun c5=>?_)
 refine ct (Z54.aq trivial) ?_
 refine au ret (fun _=>rfl) (fun _=>rfl)
def ah:cY 175 aV:=W2 39 F mix aJ bH (nD Z35.ah Z53.ah Z54.ah) Tryz.func175
end Z55
namespace Z56
def F (x0 x1:bz):aD:=(call (Z35.R x0.bZ) fun v1=>(cond v1 (ret (5:Int)) (cond (x1.bO==x0.bO) (ret (6:Int)) (call (Z54.R (x1,x0)) fun v2=>(cond (!v2) (ret (6:Int)) (call (Z53.R (x1.bZ,x0.bZ)) fun v3=>(cond (!v3) (ret (6:Int)) (call (Z53.R (x1.cg,x0.cg)) fun v4=>(cond (!v4) (ret (6:Int)) (cond (x1.ef != x0.ef) (ret (6:Int)) (cond x1.bO (call (Z53.R (x1.cq,x0.cq)) fun v5=>(cond (!v5) (ret (6:Int)) (ret (1:Int)))) (ret (1:Int)))))))))))))
def md (a0 a1:ay):Int:=(cond (Z35.md a0.bZ) (5:Int) (cond (a1.bO==a0.bO) (6:Int) (cond (!(Z54.md a1 a0)) (6:Int) (cond (!(Z53.md a1.bZ a0.bZ)) (6:Int) (cond (!(Z53.md a1.cg a0.cg)) (6:Int) (cond (a1.ef != a0.ef) (6:Int) (cond a1.bO (cond (!(Z53.md a1.cq a0.cq)) (6:Int) (1:Int)) (1:Int))))))))
def gd (a0 a1:ay):Prop:=(ay.Sm (2^21) a0)/\(ay.Sm (2^21) a1)
def R:=eA gd md
def aq {a0 a1}(h:gd a0 a1):R ((ay.r a0),(ay.r a1))=some (md a0 a1):=eB h
def aV:=CN [.agg sZ,.agg sZ] oI RT.dec R
def bH (a0)(a1)(hg:gd a0 a1):F (ay.r a0) (ay.r a1)=ret (md a0 a1):=by
 obtain ⟨H0,H1⟩:=hg
 unfold F md
 try simp only [SS]
 refine ct (Z35.aq trivial) ?_
 refine au ret (fun _=>rfl) (fun c1=>?_)
 refine au ret (fun _=>rfl) (fun c2=>?_)
 refine ct (Z54.aq trivial) ?_
 refine au ret (fun _=>rfl) (fun c3=>?_)
 refine ct (Z53.aq ⟨H1.2.2,H0.2.2⟩) ?_
 refine au ret (fun _=>rfl) (fun c4=>?_)
 refine ct (Z53.aq ⟨H1.2.1,H0.2.1⟩) ?_
 refine au ret (fun _=>rfl) (fun c5=>?_)
 refine au ret (fun _=>rfl) (fun c6=>?_)
 refine au ret (fun c7=>?_) (fun _=>rfl)
 refine ct (Z53.aq ⟨H1.1,H0.1⟩) ?_
 refine au ret (fun _=>rfl) (fun _=>rfl)
def ah:cY 176 aV:=W2 55 F mix aJ bH (nD Z35.ah Z54.ah Z53.ah) Tryz.func176
end Z56
namespace Z57
def F (x0:bz)(x1:aY):aD:=(call (Z36.R x0) fun v1=>(cond (!v1) (ret (2:Int)) (call (Z36.R x1.aG) fun v2=>(cond (!v2) (ret (2:Int)) (cond (x1.aG.bM != x0.bM) (ret (3:Int)) (cond (x1.aG.cV != (i64.wrap (x0.cV+1))) (ret (3:Int)) (call (Z50.R x0) fun v3=>(cond (x1.aG.eU != v3) (ret (3:Int)) (cond (x1.aG.dy<x0.dy) (ret (3:Int)) (call (Z51.R (x0,x1.aG)) fun v4=>(cond (x1.aG.bp==2) (call (Z55.R (x0,x1.aG)) fun v5=>(cond (v5==1) (call (Z39.R x1.aG) fun v6=>(call (Z48.R (x0.cg,v6,x1.eE)) fun v7=>(cond (!v7) (ret (7:Int)) (ret (v5:Int))))) (ret (v5:Int)))) (cond (x1.aG.bp==3) (call (Z56.R (x0,x1.aG)) fun v8=>(cond (v8==1) (call (Z39.R x1.aG) fun v9=>(call (Z48.R (x0.bZ,v9,x1.eE)) fun v10=>(cond (!v10) (ret (7:Int)) (ret (v8:Int))))) (ret (v8:Int)))) (cond (v4==1) (call (Z39.R x1.aG) fun v11=>(call (Z48.R (x0.cq,v11,x1.eE)) fun v12=>(cond (!v12) (ret (7:Int)) (ret (v4:Int))))) (ret (v4:Int)))))))))))))))
def md (a0:ay)(a1:af):Int:=(cond (!(Z36.md a0)) (2:Int) (cond (!(Z36.md a1.aG)) (2:Int) (cond (a1.aG.bM != a0.bM) (3:Int) (cond (a1.aG.cV != (i64.wrap (a0.cV+1))) (3:Int) (cond (a1.aG.eU != (Z50.md a0)) (3:Int) (cond (a1.aG.dy<a0.dy) (3:Int) (cond (a1.aG.bp==2) (cond ((Z55.md a0 a1.aG)==1) (cond (!(Z48.md a0.cg (Z39.md a1.aG) a1.eE)) (7:Int) ((Z55.md a0 a1.aG):Int)) ((Z55.md a0 a1.aG):Int)) (cond (a1.aG.bp==3) (cond ((Z56.md a0 a1.aG)==1) (cond (!(Z48.md a0.bZ (Z39.md a1.aG) a1.eE)) (7:Int) ((Z56.md a0 a1.aG):Int)) ((Z56.md a0 a1.aG):Int)) (cond ((Z51.md a0 a1.aG)==1) (cond (!(Z48.md a0.cq (Z39.md a1.aG) a1.eE)) (7:Int) ((Z51.md a0 a1.aG):Int)) ((Z51.md a0 a1.aG):Int))))))))))
def gd (a0:ay)(a1:af):Prop:=(ay.Sm (2^21) a0)/\(af.Sm (2^21) a1)
def R:=eA gd md
def aq {a0 a1}(h:gd a0 a1):R ((ay.r a0),(af.r a1))=some (md a0 a1):=eB h
def aV:=CN [.agg sZ,.agg CV] oI RT.dec R
def bH (a0)(a1)(hg:gd a0 a1):F (ay.r a0) (af.r a1)=ret (md a0 a1):=by
 obtain ⟨H0,H1⟩:=hg
 unfold F md
 try simp only [SS]
 refine ct (Z36.aq H0) ?_
 refine au ret (fun _=>rfl) (fun c1=>?_)
 have dc1:=c1
 try simp only [DC] at dc1
 try have tc1:=Z36.tr (by simpa using c1)
 refine ct (Z36.aq H1.1) ?_
 refine au ret (fun _=>rfl) (fun c2=>?_)
 have dc2:=c2
 try simp only [DC] at dc2
 try have tc2:=Z36.tr (by simpa using c2)
 refine au ret (fun _=>rfl) (fun c3=>?_)
 have dc3:=c3
 try simp only [DC] at dc3
 refine au ret (fun _=>rfl) (fun c4=>?_)
 have dc4:=c4
 try simp only [DC] at dc4
 refine ct (Z50.aq H0) ?_
 refine au ret (fun _=>rfl) (fun c5=>?_)
 have dc5:=c5
 try simp only [DC] at dc5
 refine au ret (fun _=>rfl) (fun c6=>?_)
 have dc6:=c6
 try simp only [DC] at dc6
 refine ct (Z51.aq trivial) ?_
 refine au ret (fun c7=>?_) (fun c7=>?_)
 ·have dc7:=c7
  try simp only [DC] at dc7
  refine ct (Z55.aq ⟨H0,H1.1⟩) ?_
  refine au ret (fun c8=>?_) (fun c8=>?_)
  ·have dc8:=c8
   try simp only [DC] at dc8
   refine ct (Z39.aq H1.1) ?_
   try simp only [SS]
   refine ct (Z48.aq ⟨H0.2.1,⟨(have:=Z39.len a1.aG;have:=(H1.1.1).1;have:=(H1.1.2.1).1;have:=(H1.1.2.2).1;om),fun _ _=>trivial⟩,H1.2⟩) ?_
   refine au ret (fun _=>rfl) (fun c9=>?_)
   all_goals exact fz
  ·all_goals exact fz
 ·have dc7:=c7
  try simp only [DC] at dc7
  refine au ret (fun c10=>?_) (fun c10=>?_)
  ·have dc10:=c10
   try simp only [DC] at dc10
   refine ct (Z56.aq ⟨H0,H1.1⟩) ?_
   refine au ret (fun c11=>?_) (fun c11=>?_)
   ·have dc11:=c11
    try simp only [DC] at dc11
    refine ct (Z39.aq H1.1) ?_
    try simp only [SS]
    refine ct (Z48.aq ⟨H0.2.2,⟨(have:=Z39.len a1.aG;have:=(H1.1.1).1;have:=(H1.1.2.1).1;have:=(H1.1.2.2).1;om),fun _ _=>trivial⟩,H1.2⟩) ?_
    refine au ret (fun _=>rfl) (fun c12=>?_)
    all_goals exact fz
   ·all_goals exact fz
  ·have dc10:=c10
   try simp only [DC] at dc10
   refine au ret (fun c13=>?_) (fun c13=>?_)
   ·have dc13:=c13
    try simp only [DC] at dc13
    refine ct (Z39.aq H1.1) ?_
    try simp only [SS]
    refine ct (Z48.aq ⟨H0.1,⟨(have:=Z39.len a1.aG;have:=(H1.1.1).1;have:=(H1.1.2.1).1;have:=(H1.1.2.2).1;om),fun _ _=>trivial⟩,H1.2⟩) ?_
    refine au ret (fun _=>rfl) (fun c14=>?_)
    all_goals exact fz
   ·all_goals exact fz
def ah:cY 137 aV:=W2 78 F mix aJ bH (Cd Z36.ah Z50.ah Z51.ah Z55.ah Z39.ah Z48.ah Z56.ah) Tryz.func137
end Z57
namespace Z58
def F (x0:bz)(x1:aY):aD:=(call (Z57.R (x0,x1)) fun v1=>ret ((v1==1):Bool))
def md (a0:ay)(a1:af):Bool:=(((Z57.md a0 a1)==1):Bool)
def gd (a0:ay)(a1:af):Prop:=(ay.Sm (2^21) a0)/\(af.Sm (2^21) a1)
def R:=eA gd md
def aq {a0 a1}(h:gd a0 a1):R ((ay.r a0),(af.r a1))=some (md a0 a1):=eB h
def aV:=CN [.agg sZ,.agg CV] oB RT.dec R
def bH (a0)(a1)(hg:gd a0 a1):F (ay.r a0) (af.r a1)=ret (md a0 a1):=by
 obtain ⟨H0,H1⟩:=hg
 unfold F md
 try simp only [SS]
 refine ct (Z57.aq ⟨H0,H1⟩) ?_
 all_goals exact fz
def ah:cY 92 aV:=W2 9 F mix aJ bH (dV Z57.ah) Tryz.func92
end Z58
namespace Z59
inductive Pt where
 | p0 (a:an) (b:Int)
def cZ:Pt->List V
 | .p0 a b=>[.sl none 78 a,.int .i64 b]
def step (J:Pt->aD):Pt->aD
 | .p0 a b=>(cond (b<(a.length:Int)) (cond (b==0) (cX ((0:Int)<(a.length:Int)) (call (Z49.R (aY.at a 0)) fun v1=>(cond (!v1) (ret (b:Int)) (cond (b>0) (cX ((0:Int)<=(i64.wrap (b - 1))) (cX ((i64.wrap (b - 1))<(a.length:Int)) (m2 b (a.length:Int) (call (Z58.R ((aY.at a (toNat (i64.wrap (b - 1)))).aG,(aY.at a (toNat b)))) fun v2=>(cond (!v2) (ret (b:Int)) (J (.p0 a (i64.wrap (b+1))))))))) (J (.p0 a (i64.wrap (b+1)))))))) (cond (b>0) (cX ((0:Int)<=(i64.wrap (b - 1))) (cX ((i64.wrap (b - 1))<(a.length:Int)) (m2 b (a.length:Int) (call (Z58.R ((aY.at a (toNat (i64.wrap (b - 1)))).aG,(aY.at a (toNat b)))) fun v3=>(cond (!v3) (ret (b:Int)) (J (.p0 a (i64.wrap (b+1))))))))) (J (.p0 a (i64.wrap (b+1)))))) sP)
def start (J:Pt->aD)(x0:an):aD:=J (.p0 x0 0)
def live:Nat->Live:=iD [(2,mN [0,3])]
def md (a0:List af):Int:=(eP (S:=Unit) (β:=Int) (fun (i1:Nat) (y1:af) (s3:Unit)=>(cond ((i1:Int)==0) (cond (!(Z49.md (a0.getD 0 af.zero))) (.inr ((i1:Int):Int)) (cond ((i1:Int)>0) (cond (!(Z58.md ((a0.getD (toNat (i64.wrap ((i1:Int) - 1))) af.zero).aG) y1)) (.inr ((i1:Int):Int)) (.inl ())) (.inl ()))) (cond ((i1:Int)>0) (cond (!(Z58.md ((a0.getD (toNat (i64.wrap ((i1:Int) - 1))) af.zero).aG) y1)) (.inr ((i1:Int):Int)) (.inl ())) (.inl ())))) (fun (s3:Unit)=>((-1):Int)) 0 a0 ())
def gd (a0:List af):Prop:=(bn (2^21) (fun y:af=>af.Sm (2^21) y) a0)
def R:=RR gd md
def aq {a0}(h:gd a0):R (a0.map af.row)=some (md a0):=dX h
def aV:=CN [pL 78] oI RT.dec R
def bH (a0)(hg:gd a0):∃n,start (iter step n) (a0.map af.row)=ret (md a0):=by
 unfold gd at hg
 have H0:=hg
 unfold start md
 try simp only [SS]
 have Bh2:a0.length<=maxLen:=(by
   have:=(H0).1
   try simp only [maxLen] at *
   omega)
 refine ex_eq (out:=ret) (dD (z:=af.zero)) ?_
 refine dW (p:=Pt.p0 (a0.map af.row) 0) fz ?_
 refine bV (pt:=fun (i1:Nat) (s3:Unit)=>Pt.p0 (a0.map af.row) (i1:Int)) (s:=(():Unit)) (out:=ret) (fun _ _=>True) (fun J i1 s3 h2 hih2=>?_) (fun s3 hih2=>?_) trivial
 ·simp only [step,SS]
  have bb_:=Bh2
  simp only [maxLen] at bb_
  have:=(H0).1
  refine bf.yes (by apply decide_eq_true;omega) ?_
  refine bf.bif (fun c4=>?_) (fun c4=>?_)
  ·have dc4:=c4
   try simp only [DC] at dc4
   refine bf.yes (have:=(H0).1;dt) ?_
   refine cr (Z49.aq (bn.getD (z:=af.zero) H0 (by first | assumption | omega | (simp (disch:=omega) only [wi];omega) | (simp;omega)))) ?_
   refine bf.bif (fun c5=>?_) (fun c5=>?_)
   ·refine bf.inr ?_
    all_goals exact fz
   ·have dc5:=c5
    try simp only [DC] at dc5
    refine bf.bif (fun c6=>?_) (fun c6=>?_)
    ·have dc6:=c6
     try simp only [DC] at dc6
     refine bf.yes dt ?_
     refine bf.yes (have:=(H0).1;dt) ?_
     refine bf.yes bA ?_
     refine bf.yes (bU h2) ?_
     refine cr (Z58.aq ⟨(bn.getD (z:=af.zero) H0 (by first | assumption | omega | (simp (disch:=omega) only [wi];omega) | (simp;omega))).1,(bn.getD (z:=af.zero) H0 h2)⟩) ?_
     refine bf.bif (fun c7=>?_) (fun c7=>?_)
     ·refine bf.inr ?_
      all_goals exact fz
     ·refine bf.inl trivial ?_
      rw [aR h2 Bh2]
      all_goals exact fz
    ·refine bf.inl trivial ?_
     rw [aR h2 Bh2]
     all_goals exact fz
  ·have dc4:=c4
   try simp only [DC] at dc4
   refine bf.bif (fun c8=>?_) (fun c8=>?_)
   ·have dc8:=c8
    try simp only [DC] at dc8
    refine bf.yes dt ?_
    refine bf.yes (have:=(H0).1;dt) ?_
    refine bf.yes bA ?_
    refine bf.yes (bU h2) ?_
    refine cr (Z58.aq ⟨(bn.getD (z:=af.zero) H0 (by first | assumption | omega | (simp (disch:=omega) only [wi];omega) | (simp;omega))).1,(bn.getD (z:=af.zero) H0 h2)⟩) ?_
    refine bf.bif (fun c9=>?_) (fun c9=>?_)
    ·refine bf.inr ?_
     all_goals exact fz
    ·refine bf.inl trivial ?_
     rw [aR h2 Bh2]
     all_goals exact fz
   ·refine bf.inl trivial ?_
    rw [aR h2 Bh2]
    all_goals exact fz
 ·simp only [step,SS]
  have:=(H0).1
  refine dQ (by apply decide_eq_false;omega) ?_
  refine ⟨0,?_⟩
  all_goals exact fz
def ah:cY 42 aV:=L1 38 (fun _=>2) cZ (fun _=>[]) live step start mix aJ bH (gH Z49.ah Z58.ah) Tryz.func42
end Z59
namespace Z60
def F (x0:an):aD:=(call (Z11.R ((x0.length:Int),1,12)) fun v1=>(cond v1 (call (Z59.R x0) fun v2=>ret ((decide (v2<0)):Bool)) aS))
def md (a0:List af):Bool:=(cond (Z11.md (a0.length:Int) 1 12) ((decide ((Z59.md a0)<0)):Bool) (false:Bool))
def gd (a0:List af):Prop:=(bn (2^21) (fun y:af=>af.Sm (2^21) y) a0)
def R:=RR gd md
def aq {a0}(h:gd a0):R (a0.map af.row)=some (md a0):=dX h
def aV:=CN [pL 78] oB RT.dec R
def bH (a0)(hg:gd a0):F (a0.map af.row)=ret (md a0):=by
 unfold gd at hg
 have H0:=hg
 unfold F md
 try simp only [SS]
 refine ct (Z11.aq trivial) ?_
 refine au ret (fun c1=>?_) (fun _=>rfl)
 refine ct (Z59.aq H0) ?_
 all_goals exact fz
def ah:cY 11 aV:=W1 11 F mix aJ bH (gH Z11.ah Z59.ah) Tryz.func11
def tr {a0:List af}(h:md a0=true):1<=a0.length/\a0.length<=12:=by simp [md,Z11.md] at h;omega
end Z60
namespace Z61
def F (x0:an):aD:=(call (Z60.R x0) fun v1=>(cond (!v1) (ret (((⟨0,0,0,0,0,0,0,0,(⟨[],0⟩:bl),(⟨[],0⟩:bl),0,(⟨[],0⟩:bl),false⟩:bz),false):bz×Bool)) (cX ((0:Int)<=(i64.wrap ((x0.length:Int) - 1))) (cX ((i64.wrap ((x0.length:Int) - 1))<(x0.length:Int)) (call (Z38.R ((aY.at x0 (toNat (i64.wrap ((x0.length:Int) - 1)))).aG)) fun v2=>ret ((v2,true):bz×Bool))))))
def md (a0:List af):ay×Bool:=(cond (!(Z60.md a0)) ((⟨0,0,0,0,0,0,0,0,(⟨[],0⟩:aM),(⟨[],0⟩:aM),0,(⟨[],0⟩:aM),false⟩:ay),false) (((a0.getD (toNat (i64.wrap ((a0.length:Int) - 1))) af.zero).aG),true))
def gd (a0:List af):Prop:=(bn (2^21) (fun y:af=>af.Sm (2^21) y) a0)
def R:=RR gd md
def aq {a0}(h:gd a0):R (a0.map af.row)=some ((ay.r (md a0).1),(md a0).2):=dX h
def aV:=CN [pL 78] (.gK [(true,f35),(false,[fB])]) RT.dec R
def bH (a0)(hg:gd a0):F (a0.map af.row)=ret ((ay.r (md a0).1),(md a0).2):=by
 unfold gd at hg
 have H0:=hg
 unfold F md
 try simp only [SS]
 refine ct (Z60.aq H0) ?_
 refine au (fun b:ay×Bool=>ret (((ay.r b.1),b.2):bz×Bool)) (fun c1=>?_) (fun c1=>?_)
 ·all_goals exact fz
 ·have dc1:=c1
  try simp only [DC] at dc1
  try have tc1:=Z60.tr (by simpa using c1)
  refine aW (have:=(H0).1;dt) ?_
  refine aW (have:=(H0).1;dt) ?_
  refine ct (Z38.aq (bn.getD (z:=af.zero) H0 (by first | assumption | omega | (simp (disch:=omega) only [wi];omega) | (simp;omega))).1) ?_
  try simp only [SS]
  all_goals exact fz
def ah:cY 12 aV:=W1 16 F mix aJ bH (gH Z60.ah Z38.ah) Tryz.func12
def fY {a0:List af}(hg:gd a0):ay.Sm (2^21) ((md a0).1):=by
 unfold gd at hg;unfold md
 cases h:Z60.md a0
 ·exact ⟨bn.nil,bn.nil,bn.nil⟩
 ·have:=Z60.tr h
  exact (bn.getD hg (by simp (disch:=omega) only [Go.IntWalk.i64_in];omega)).1
end Z61
namespace Z62
def F (x0:Int)(x1:an):aD:=(call (Z15.R x1) fun v1=>(cond v1 (call (Z32.R x1) fun v2=>ret ((v2==x0):Bool)) aS))
def md (a0:Int)(a1:List aa):Bool:=(cond (Z15.md a1) (((Z32.md a1)==a0):Bool) (false:Bool))
def gd (a0:Int)(a1:List aa):Prop:=(bn (2^21) (fun y:aa=>aa.Sm (2^21) y) a1)
def R:=eA gd md
def aq {a0 a1}(h:gd a0 a1):R (a0,(a1.map aa.row))=some (md a0 a1):=eB h
def aV:=CN [pI,pL 53] oB RT.dec R
def bH (a0)(a1)(hg:gd a0 a1):F a0 (a1.map aa.row)=ret (md a0 a1):=by
 unfold gd at hg
 have H1:=hg
 unfold F md
 try simp only [SS]
 refine ct (Z15.aq H1) ?_
 refine au ret (fun c1=>?_) (fun _=>rfl)
 refine ct (Z32.aq H1) ?_
 all_goals exact fz
def ah:cY 222 aV:=W2 13 F mix aJ bH (gH Z15.ah Z32.ah) Tryz.func222
end Z62
namespace Z63
def F (x0:bS):aD:=(call (Z61.R x0.aI) fun v1=>(cond v1.2 (cond (v1.1.cQ==(x0.ck.length:Int)) (call (Z62.R (v1.1.eu,x0.ck)) fun v2=>ret (v2:Bool)) aS) aS))
def md (a0:aN):Bool:=(cond ((Z61.md a0.aI).2) (cond ((Z61.md a0.aI).1.cQ==(a0.ck.length:Int)) ((Z62.md ((Z61.md a0.aI).1.eu) a0.ck):Bool) (false:Bool)) (false:Bool))
def gd (a0:aN):Prop:=(aN.Sm (2^21) a0)
def R:=RR gd md
def aq {a0}(h:gd a0):R (aN.r a0)=some (md a0):=dX h
def aV:=CN [.agg xd] oB RT.dec R
def bH (a0)(hg:gd a0):F (aN.r a0)=ret (md a0):=by
 unfold gd at hg
 have H0:=hg
 unfold F md
 try simp only [SS]
 refine ct (Z61.aq H0.1) ?_
 try simp only [SS]
 refine au ret (fun c1=>?_) (fun _=>rfl)
 refine au ret (fun c2=>?_) (fun _=>rfl)
 refine ct (Z62.aq H0.2) ?_
 all_goals exact fz
def ah:cY 189 aV:=W1 27 F mix aJ bH (gH Z61.ah Z62.ah) Tryz.func189
end Z63
namespace Z64
def F (x0:bS):aD:=(call (Z61.R x0.aI) fun v1=>(call (Z63.R x0) fun v2=>(cond (!v2) sP (ret (v1.1.bM:Int)))))
def md (a0:aN):Int:=(cond (!(Z63.md a0)) ((-1):Int) ((Z61.md a0.aI).1.bM:Int))
def gd (a0:aN):Prop:=(aN.Sm (2^21) a0)
def R:=RR gd md
def aq {a0}(h:gd a0):R (aN.r a0)=some (md a0):=dX h
def aV:=CN [.agg xd] oI RT.dec R
def bH (a0)(hg:gd a0):F (aN.r a0)=ret (md a0):=by
 unfold gd at hg
 have H0:=hg
 unfold F md
 try simp only [SS]
 refine ct (Z61.aq H0.1) ?_
 try simp only [SS]
 refine ct (Z63.aq H0) ?_
 refine au ret (fun _=>rfl) (fun c1=>?_)
 all_goals exact fz
def ah:cY 148 aV:=W1 16 F mix aJ bH (gH Z61.ah Z63.ah) Tryz.func148
end Z64
namespace Z65
def F (x0:av)(x1:Int):aD:=ret ((⟨x0,2,x1,[]⟩:aC):aC)
def md (a0:av)(a1:Int):aa:=(⟨a0,2,a1,[]⟩:aa)
def gd (a0:av)(a1:Int):Prop:=True
def R:=eA gd md
def aq {a0 a1}(h:gd a0 a1):R (a0,a1)=some (aa.r (md a0 a1)):=eB h
def aV:=CN [pS,pI] (.agg f53) RT.dec R
def bH (a0)(a1)(hg:gd a0 a1):F a0 a1=ret (aa.r (md a0 a1)):=by
 unfold F md
 try simp only [SS]
 all_goals exact fz
def ah:cY 109 aV:=W2 8 F mix aJ bH .nil Tryz.func109
end Z65
namespace Z66
def F (x0:av)(x1:Int)(x2:an):aD:=(call (Z9.R x2) fun v1=>ret ((⟨x0,3,x1,v1⟩:aC):aC))
def md (a0:av)(a1:Int)(a2:List av):aa:=(⟨a0,3,a1,a2⟩:aa)
def gd (a0:av)(a1:Int)(a2:List av):Prop:=(bn (2^21) (fun y:av=>y.size<=(2^21)) a2)
def R:=ot gd md
def aq {a0 a1 a2}(h:gd a0 a1 a2):R (a0,a1,(a2.map bY))=some (aa.r (md a0 a1 a2)):=nZ h
def aV:=CN [pS,pI,pL 9] (.agg f53) RT.dec R
def bH (a0)(a1)(a2)(hg:gd a0 a1 a2):F a0 a1 (a2.map bY)=ret (aa.r (md a0 a1 a2)):=by
 unfold gd at hg
 have H2:=hg
 unfold F md
 try simp only [SS]
 refine ct (Z9.aq H2) ?_
 try simp only [SS]
 all_goals exact fz
def ah:cY 110 aV:=W3 12 F mix aJ bH (dV Z9.ah) Tryz.func110
end Z66
namespace Z67
def F (x0:an)(x1 x2 x3:Int):aD:=(call (Z4.R (x0,x1,x2,x3)) fun v1=>ret ((Hl.mk,v1.2.1,v1.2.2.1,(v1.2.2.2==0)):Hl×Int×Int×Bool))
abbrev cG:List K:=[.sl 5,aQ,aQ]
def pats:List (Option fH):=[none,some (.rd (.int .i64))]
def res:RP:=.one (.rd (.bool))
abbrev E:Env:={ T:=assoc mD,G:=cN [],nt:=9,M:=eL [],np:=(nC cG),mt:=false,I:=fV [(52,Z4.ic (nC cG))] }
def run_eq (n:Nat)(ls:List L):eS E (fun _=>[]) Tryz.f76 (.cur cG res.parts) n (gr cG pats ls)=F (fc ls) (cA 1 ls) (cA 2 ls) (cA 3 ls):=by kernel_rfl
def gd (x0:an)(x1 x2 x3:Int):Prop:=CI x0 x1
def post (x0:an)(x1 x2 x3:Int)(y:Hl×Int×Int×Bool):Prop:=CI x0 y.2.1
def wp (x0:an)(x1 x2 x3:Int)(hg:gd x0 x1 x2 x3):Wp (F x0 x1 x2 x3) (post x0 x1 x2 x3):=by
 unfold F
 exact Z4.cF hg (fun v hv=>wp_ret hv.1)
def R:(an×Int×Int×Int)->Option (Hl×Int×Int×Bool):=RQ (fun _ x=>F x.1 x.2.1 x.2.2.1 x.2.2.2) (fun x=>post x.1 x.2.1 x.2.2.1 x.2.2.2)
def cF {x0:an}{x1 x2 x3:Int}{γ:Type}[RT γ]{k:(Hl×Int×Int×Bool)->aD}{Q:γ->Prop}(hg:gd x0 x1 x2 x3)(hk:∀y,post x0 x1 x2 x3 y->Wp (k y) Q):Wp (call (R (x0,x1,x2,x3)) k) Q:=dY ⟨0,wp x0 x1 x2 x3 hg⟩ hk
def acc (ls:List L):an×Int×Int×Int:=((fc ls),(cA 1 ls),(cA 2 ls),(cA 3 ls))
def aV:iL:=CC cG pats res acc R
def ah:fG Tryz.prog Ev 76 aV:=VC (live:=(fun _=>[])) (mt:=false) mix aJ .nil .nil (.cons (Z4.bq (nC cG)) .nil) Tryz.func76 (by kernel_rfl) run_eq
def ic (_:Nat):fU:=iQ Ev aV
def bq (n:Nat):dh Tryz.prog Ev n 76 (ic n):=dF ah
end Z67
namespace Z68
abbrev E (n:Nat):Env:={ T:=assoc mD,G:=cN [(133,Z36.aV)],nt:=9,M:=eL [],np:=n,I:=fV [] }
def ic (n:Nat):fU:=inl (E n) Tryz.f224
def bq (n:Nat):dh Tryz.prog Ev n 224 (ic n):=Dy (mt:=false) mix aJ (dV Z36.ah) .nil .nil Tryz.func224 (by kernel_rfl)
end Z68
namespace Z69
def F (x0:bz)(x1 x2 x3:Int):aD:=(call (Z36.R x0) fun v1=>(cond (!v1) (ret (((⟨0,0,0,0,0,0,0,0,(⟨[],0⟩:bl),(⟨[],0⟩:bl),0,(⟨[],0⟩:bl),false⟩:bz),false):bz×Bool)) (call (Z11.R (x2,x0.dy,100000)) fun v2=>(cond (!v2) (ret (((⟨0,0,0,0,0,0,0,0,(⟨[],0⟩:bl),(⟨[],0⟩:bl),0,(⟨[],0⟩:bl),false⟩:bz),false):bz×Bool)) (call (Z11.R (x3,0,200)) fun v3=>(cond (!v3) (ret (((⟨0,0,0,0,0,0,0,0,(⟨[],0⟩:bl),(⟨[],0⟩:bl),0,(⟨[],0⟩:bl),false⟩:bz),false):bz×Bool)) (call (Z38.R x0) fun v4=>(call (Z50.R x0) fun v5=>(call (Z36.R (⟨v4.bM,(i64.wrap (x0.cV+1)),x1,x2,(i64.wrap (x2+x3)),v4.cQ,v4.eu,v5,v4.cq,v4.cg,v4.ef,v4.bZ,v4.bO⟩:bz)) fun v6=>(cond (!v6) (ret (((⟨0,0,0,0,0,0,0,0,(⟨[],0⟩:bl),(⟨[],0⟩:bl),0,(⟨[],0⟩:bl),false⟩:bz),false):bz×Bool)) (ret (((⟨v4.bM,(i64.wrap (x0.cV+1)),x1,x2,(i64.wrap (x2+x3)),v4.cQ,v4.eu,v5,v4.cq,v4.cg,v4.ef,v4.bZ,v4.bO⟩:bz),true):bz×Bool))))))))))))
def pats:List fH:=[.agg [aQ,aQ,aQ,aQ,aQ,aQ,aQ,aQ,.sl 3,aQ,.sl 3,aQ,aQ,.sl 3,aQ,.bool],.rd (.int .i64),.rd (.int .i64),.rd (.int .i64)]
def res:RP:=.gK [(true,[.rd (.int .i64),.rd (.int .i64),.rd (.int .i64),.rd (.int .i64),.rd (.int .i64),.rd (.int .i64),.rd (.int .i64),.rd (.int .i64),.fr 3,.rd (.int .i64),.fr 3,.rd (.int .i64),.rd (.int .i64),.fr 3,.rd (.int .i64),.rd (.bool)]),(false,[.rd (.bool)])]
abbrev E:Env:={ T:=assoc mD,G:=cN [(133,Z36.aV),(41,Z11.aV),(39,Z38.aV),(173,Z50.aV)],nt:=48,M:=eL [],I:=fV [(224,Z68.ic 0)] }
def run_eq (n:Nat)(ls:List L):eS E (fun _=>[]) Tryz.f223 res n (dS pats ls)=F (bz.dec ls) (cA 16 ls) (cA 17 ls) (cA 18 ls):=by kernel_rfl
def md (a0:ay)(a1 a2 a3:Int):ay×Bool:=(cond (!(Z36.md a0)) ((⟨0,0,0,0,0,0,0,0,(⟨[],0⟩:aM),(⟨[],0⟩:aM),0,(⟨[],0⟩:aM),false⟩:ay),false) (cond (!(Z11.md a2 a0.dy 100000)) ((⟨0,0,0,0,0,0,0,0,(⟨[],0⟩:aM),(⟨[],0⟩:aM),0,(⟨[],0⟩:aM),false⟩:ay),false) (cond (!(Z11.md a3 0 200)) ((⟨0,0,0,0,0,0,0,0,(⟨[],0⟩:aM),(⟨[],0⟩:aM),0,(⟨[],0⟩:aM),false⟩:ay),false) (cond (!(Z36.md (⟨a0.bM,(i64.wrap (a0.cV+1)),a1,a2,(i64.wrap (a2+a3)),a0.cQ,a0.eu,(Z50.md a0),a0.cq,a0.cg,a0.ef,a0.bZ,a0.bO⟩:ay))) ((⟨0,0,0,0,0,0,0,0,(⟨[],0⟩:aM),(⟨[],0⟩:aM),0,(⟨[],0⟩:aM),false⟩:ay),false) ((⟨a0.bM,(i64.wrap (a0.cV+1)),a1,a2,(i64.wrap (a2+a3)),a0.cQ,a0.eu,(Z50.md a0),a0.cq,a0.cg,a0.ef,a0.bZ,a0.bO⟩:ay),true)))))
def gd (a0:ay)(a1 a2 a3:Int):Prop:=(ay.Sm (2^21) a0)
def acc (ls:List L):bz×Int×Int×Int:=((bz.dec ls),(cA 16 ls),(cA 17 ls),(cA 18 ls))
def R:(bz×Int×Int×Int)->Option (bz×Bool):=xL gd md
def aq {a0 a1 a2 a3}(h:gd a0 a1 a2 a3):R ((ay.r a0),a1,a2,a3)=some ((ay.r (md a0 a1 a2 a3).1),(md a0 a1 a2 a3).2):=yg h
def aV:gW:=CN pats res acc R
def bH (a0:ay)(a1 a2 a3:Int)(hg:gd a0 a1 a2 a3):F (ay.r a0) a1 a2 a3=ret (((ay.r (md a0 a1 a2 a3).1),(md a0 a1 a2 a3).2):bz×Bool):=by
 unfold gd at hg
 have H0:=hg
 unfold F md
 try simp only [SS]
 refine ct (Z36.aq H0) ?_
 refine au (fun b:ay×Bool=>ret (((ay.r b.1),b.2):bz×Bool)) (fun c1=>?_) (fun c1=>?_)
 ·all_goals exact fz
 ·refine ct (Z11.aq trivial) ?_
  refine au (fun b:ay×Bool=>ret (((ay.r b.1),b.2):bz×Bool)) (fun c2=>?_) (fun c2=>?_)
  ·all_goals exact fz
  ·refine ct (Z11.aq trivial) ?_
   refine au (fun b:ay×Bool=>ret (((ay.r b.1),b.2):bz×Bool)) (fun c3=>?_) (fun c3=>?_)
   ·all_goals exact fz
   ·refine ct (Z38.aq H0) ?_
    try simp only [SS]
    refine ct (Z50.aq H0) ?_
    refine ct (Z36.aq (a0:=(⟨a0.bM,(i64.wrap (a0.cV+1)),a1,a2,(i64.wrap (a2+a3)),a0.cQ,a0.eu,(Z50.md a0),a0.cq,a0.cg,a0.ef,a0.bZ,a0.bO⟩:ay)) ⟨H0.1,H0.2.1,H0.2.2⟩) ?_
    refine au (fun b:ay×Bool=>ret (((ay.r b.1),b.2):bz×Bool)) (fun c4=>?_) (fun c4=>?_)
    ·all_goals exact fz
    ·all_goals exact fz
def ah:cY 223 aV:=VI (mt:=false) (run:=fun _ x=>F x.1 x.2.1 x.2.2.1 x.2.2.2) mix aJ (tG Z36.ah Z11.ah Z38.ah Z50.ah) .nil (.cons (Z68.bq 0) .nil) Tryz.func223 (by kernel_rfl) run_eq (fun _ a _ _ hg=>⟨0,bH a.1 a.2.1 a.2.2.1 a.2.2.2 hg⟩)
def fY {a0:ay}{a1 a2 a3:Int}(hg:gd a0 a1 a2 a3):ay.Sm (2^21) ((md a0 a1 a2 a3).1):=by
 unfold gd at hg
 unfold md
 simp only [Bool.cond_eq_ite]
 repeat' split
 all_goals first | exact ⟨bn.nil,bn.nil,bn.nil⟩ | exact ⟨hg.1,hg.2.1,hg.2.2⟩
end Z69
namespace Z70
def F (x0:bz)(x1:an)(x2 x3:Int):aD:=(call (Z69.R (x0,1,x2,x3)) fun v1=>(cond (!v1.2) (ret (((⟨0,0,0,0,0,0,0,0,(⟨[],0⟩:bl),(⟨[],0⟩:bl),0,(⟨[],0⟩:bl),false⟩:bz),false):bz×Bool)) (call (Z15.R x1) fun v2=>(cond (!v2) (ret (((⟨0,0,0,0,0,0,0,0,(⟨[],0⟩:bl),(⟨[],0⟩:bl),0,(⟨[],0⟩:bl),false⟩:bz),false):bz×Bool)) (call (Z32.R x1) fun v3=>(call (Z36.R (⟨v1.1.bM,v1.1.cV,v1.1.bp,v1.1.dy,v1.1.dx,(x1.length:Int),v3,v1.1.eU,v1.1.cq,v1.1.cg,v1.1.ef,v1.1.bZ,v1.1.bO⟩:bz)) fun v4=>(cond (!v4) (ret (((⟨0,0,0,0,0,0,0,0,(⟨[],0⟩:bl),(⟨[],0⟩:bl),0,(⟨[],0⟩:bl),false⟩:bz),false):bz×Bool)) (ret (((⟨v1.1.bM,v1.1.cV,v1.1.bp,v1.1.dy,v1.1.dx,(x1.length:Int),v3,v1.1.eU,v1.1.cq,v1.1.cg,v1.1.ef,v1.1.bZ,v1.1.bO⟩:bz),true):bz×Bool)))))))))
def pats:List fH:=[.agg [aQ,aQ,aQ,aQ,aQ,aQ,aQ,aQ,.sl 3,aQ,.sl 3,aQ,aQ,.sl 3,aQ,.bool],.rd (.sl 53),.rd (.int .i64),.rd (.int .i64)]
def res:RP:=.gK [(true,[.rd (.int .i64),.rd (.int .i64),.rd (.int .i64),.rd (.int .i64),.rd (.int .i64),.rd (.int .i64),.rd (.int .i64),.rd (.int .i64),.fr 3,.rd (.int .i64),.fr 3,.rd (.int .i64),.rd (.int .i64),.fr 3,.rd (.int .i64),.rd (.bool)]),(false,[.rd (.bool)])]
abbrev E:Env:={ T:=assoc mD,G:=cN [(223,Z69.aV),(188,Z15.aV),(181,Z32.aV)],nt:=37,M:=eL [],I:=fV [(224,Z68.ic 0)] }
def run_eq (n:Nat)(ls:List L):eS E (fun _=>[]) Tryz.f190 res n (dS pats ls)=F (bz.dec ls) (gS 16 ls) (cA 17 ls) (cA 18 ls):=by kernel_rfl
def md (a0:ay)(a1:List aa)(a2 a3:Int):ay×Bool:=(cond (!(Z69.md a0 1 a2 a3).2) ((⟨0,0,0,0,0,0,0,0,(⟨[],0⟩:aM),(⟨[],0⟩:aM),0,(⟨[],0⟩:aM),false⟩:ay),false) (cond (!(Z15.md a1)) ((⟨0,0,0,0,0,0,0,0,(⟨[],0⟩:aM),(⟨[],0⟩:aM),0,(⟨[],0⟩:aM),false⟩:ay),false) (cond (!(Z36.md (⟨(Z69.md a0 1 a2 a3).1.bM,(Z69.md a0 1 a2 a3).1.cV,(Z69.md a0 1 a2 a3).1.bp,(Z69.md a0 1 a2 a3).1.dy,(Z69.md a0 1 a2 a3).1.dx,(a1.length:Int),(Z32.md a1),(Z69.md a0 1 a2 a3).1.eU,(Z69.md a0 1 a2 a3).1.cq,(Z69.md a0 1 a2 a3).1.cg,(Z69.md a0 1 a2 a3).1.ef,(Z69.md a0 1 a2 a3).1.bZ,(Z69.md a0 1 a2 a3).1.bO⟩:ay))) ((⟨0,0,0,0,0,0,0,0,(⟨[],0⟩:aM),(⟨[],0⟩:aM),0,(⟨[],0⟩:aM),false⟩:ay),false) ((⟨(Z69.md a0 1 a2 a3).1.bM,(Z69.md a0 1 a2 a3).1.cV,(Z69.md a0 1 a2 a3).1.bp,(Z69.md a0 1 a2 a3).1.dy,(Z69.md a0 1 a2 a3).1.dx,(a1.length:Int),(Z32.md a1),(Z69.md a0 1 a2 a3).1.eU,(Z69.md a0 1 a2 a3).1.cq,(Z69.md a0 1 a2 a3).1.cg,(Z69.md a0 1 a2 a3).1.ef,(Z69.md a0 1 a2 a3).1.bZ,(Z69.md a0 1 a2 a3).1.bO⟩:ay),true))))
def gd (a0:ay)(a1:List aa)(a2 a3:Int):Prop:=(ay.Sm (2^21) a0)/\(bn (2^21) (fun y:aa=>aa.Sm (2^21) y) a1)
def acc (ls:List L):bz×an×Int×Int:=((bz.dec ls),(gS 16 ls),(cA 17 ls),(cA 18 ls))
def R:(bz×an×Int×Int)->Option (bz×Bool):=xL gd md
def aq {a0 a1 a2 a3}(h:gd a0 a1 a2 a3):R ((ay.r a0),(a1.map aa.row),a2,a3)=some ((ay.r (md a0 a1 a2 a3).1),(md a0 a1 a2 a3).2):=yg h
def aV:gW:=CN pats res acc R
def bH (a0:ay)(a1:List aa)(a2 a3:Int)(hg:gd a0 a1 a2 a3):F (ay.r a0) (a1.map aa.row) a2 a3=ret (((ay.r (md a0 a1 a2 a3).1),(md a0 a1 a2 a3).2):bz×Bool):=by
 obtain ⟨H0,H1⟩:=hg
 unfold F md
 try simp only [SS]
 refine ct (Z69.aq H0) ?_
 try simp only [SS]
 refine au (fun b:ay×Bool=>ret (((ay.r b.1),b.2):bz×Bool)) (fun c1=>?_) (fun c1=>?_)
 ·all_goals exact fz
 ·refine ct (Z15.aq H1) ?_
  refine au (fun b:ay×Bool=>ret (((ay.r b.1),b.2):bz×Bool)) (fun c2=>?_) (fun c2=>?_)
  ·all_goals exact fz
  ·refine ct (Z32.aq H1) ?_
   have h2:=Z36.aq (a0:=(⟨(Z69.md a0 1 a2 a3).1.bM,(Z69.md a0 1 a2 a3).1.cV,(Z69.md a0 1 a2 a3).1.bp,(Z69.md a0 1 a2 a3).1.dy,(Z69.md a0 1 a2 a3).1.dx,(a1.length:Int),(Z32.md a1),(Z69.md a0 1 a2 a3).1.eU,(Z69.md a0 1 a2 a3).1.cq,(Z69.md a0 1 a2 a3).1.cg,(Z69.md a0 1 a2 a3).1.ef,(Z69.md a0 1 a2 a3).1.bZ,(Z69.md a0 1 a2 a3).1.bO⟩:ay)) ⟨(Z69.fY (a0:=a0) (a1:=1) (a2:=a2) (a3:=a3) H0).1,(Z69.fY (a0:=a0) (a1:=1) (a2:=a2) (a3:=a3) H0).2.1,(Z69.fY (a0:=a0) (a1:=1) (a2:=a2) (a3:=a3) H0).2.2⟩
   simp only [ay.r] at h2 ⊢
   refine ct h2 ?_
   refine au (fun b:ay×Bool=>ret (((ay.r b.1),b.2):bz×Bool)) (fun c3=>?_) (fun c3=>?_)
   ·all_goals exact fz
   ·simp only [ay.r]
def ah:cY 190 aV:=VI (mt:=false) (run:=fun _ x=>F x.1 x.2.1 x.2.2.1 x.2.2.2) mix aJ (nD Z69.ah Z15.ah Z32.ah) .nil (.cons (Z68.bq 0) .nil) Tryz.func190 (by kernel_rfl) run_eq (fun _ a _ _ hg=>⟨0,bH a.1 a.2.1 a.2.2.1 a.2.2.2 hg⟩)
def fY {a0:ay}{a1:List aa}{a2 a3:Int}(hg:gd a0 a1 a2 a3):ay.Sm (2^21) ((md a0 a1 a2 a3).1):=by
 unfold gd at hg
 have h1:=Z69.fY (a0:=a0) (a1:=1) (a2:=a2) (a3:=a3) hg.1
 unfold md
 simp only [Bool.cond_eq_ite]
 repeat' split
 all_goals first | exact ⟨bn.nil,bn.nil,bn.nil⟩ | exact ⟨h1.1,h1.2.1,h1.2.2⟩
end Z70
namespace Z71
def F (x0:aY):aD:=(call (Z38.R x0.aG) fun v1=>(cX (fu ((x0.eE.length:Int)*16)) (ret ((⟨v1,x0.eE⟩:aY):aY))))
def md (a0:af):af:=a0
def gd (a0:af):Prop:=(af.Sm (2^21) a0)
def R:=RR gd md
def aq {a0}(h:gd a0):R (af.r a0)=some (af.r a0):=dX h
def aV:=CN [.agg CV] (.agg f78) RT.dec R
def bH (a0)(hg:gd a0):F (af.r a0)=ret (af.r (md a0)):=by
 unfold gd at hg
 have H0:=hg
 unfold F md
 try simp only [SS]
 refine ct (Z38.aq H0.1) ?_
 try simp only [SS]
 refine aW (have:=(H0.2).1;lm) ?_
 all_goals exact fz
def ah:cY 180 aV:=W1 11 F mix aJ bH (dV Z38.ah) Tryz.func180
end Z71
namespace Z72
inductive Pt where
 | p0 (a:an) (b:Int) (c:an)
def cZ:Pt->List V
 | .p0 a b c=>[.sl none 78 a,.own 0,.int .i64 b]
def eD:Pt->List aK
 | .p0 a b c=>[.row 78 c]
def step (J:Pt->aD):Pt->aD
 | .p0 a b c=>(cond (b<(a.length:Int)) (m2 b (a.length:Int) (call (Z71.R (aY.at a (toNat b))) fun v1=>(cX (fu (((c.length:Int)+1)*200)) (J (.p0 a (i64.wrap (b+1)) (c++[(aY.enc v1)])))))) (ret (c:an)))
def start (J:Pt->aD)(x0:an):aD:=J (.p0 x0 0 [])
def live:Nat->Live:=iD [(3,[(0,none),(3,some 78),(4,none)])]
def md (a0:List af):List af:=a0
def gd (a0:List af):Prop:=(bn (2^21) (fun y:af=>af.Sm (2^21) y) a0)
def R:=RR gd md
def aq {a0}(h:gd a0):R (a0.map af.row)=some (a0.map af.row):=dX h
def aV:=CN [pL 78] (oL 78) RT.dec R
def bH (a0)(hg:gd a0):∃n,start (iter step n) (a0.map af.row)=ret ((md a0).map af.row):=by
 unfold gd at hg
 have H0:=hg
 unfold start md
 try simp only [SS]
 have Bh2:a0.length<=maxLen:=(by
   have:=(H0).1
   try simp only [maxLen] at *
   omega)
 refine ex_eq (out:=(fun b:List af=>ret ((b.map af.row):an))) (hU (xs:=a0) (z:=af.zero) (t:=fun s3:List af=>s3)) ?_
 refine dW (p:=Pt.p0 (a0.map af.row) 0 ([].map af.row)) fz ?_
 refine bV (pt:=fun (i1:Nat) (s3:List af)=>Pt.p0 (a0.map af.row) (i1:Int) (s3.map af.row)) (s:=([]:List af)) (out:=(fun b:List af=>ret ((b.map af.row):an))) (fun (i1:Nat) (s3:List af)=>s3.length<=([]:List Int).length+1*i1) (fun J i1 s3 h2 hih2=>?_) (fun s3 hih2=>?_) (by simp)
 ·simp only [step,SS]
  have gr_:=hih2
  try simp only [LN] at gr_
  have bb_:=Bh2
  simp only [maxLen] at bb_
  have:=(H0).1
  refine bf.yes (by apply decide_eq_true;omega) ?_
  refine bf.yes bA ?_
  refine bf.yes (bU h2) ?_
  refine cr (Z71.aq (bn.getD (z:=af.zero) H0 h2)) ?_
  try simp only [SS]
  refine bf.yes lm ?_
  refine bf.inl (by
    have g_:=hih2
    try simp only [LN] at g_ ⊢
    first | omega | (simp;done) | (simp;omega)) ?_
  rw [aR h2 Bh2]
  all_goals exact fz
 ·simp only [step,SS]
  have gr_:=hih2
  try simp only [LN] at gr_
  have:=(H0).1
  refine dQ (by apply decide_eq_false;omega) ?_
  refine ⟨0,?_⟩
  all_goals exact fz
def ah:cY 154 aV:=L1 21 (fun _=>3) cZ eD live step start mix aJ bH (dV Z71.ah) Tryz.func154
end Z72
namespace Z73
def F (x0:bS):aD:=(call (Z72.R x0.aI) fun v1=>(call (Z16.R x0.ck) fun v2=>ret ((⟨v1,v2⟩:bS):bS)))
def md (a0:aN):aN:=a0
def gd (a0:aN):Prop:=(aN.Sm (2^21) a0)
def R:=RR gd md
def aq {a0}(h:gd a0):R (aN.r a0)=some (aN.r a0):=dX h
def aV:=CN [.agg xd] (.agg f139) RT.dec R
def bH (a0)(hg:gd a0):F (aN.r a0)=ret (aN.r (md a0)):=by
 unfold gd at hg
 have H0:=hg
 unfold F md
 try simp only [SS]
 refine ct (Z72.aq H0.1) ?_
 try simp only [SS]
 refine ct (Z16.aq H0.2) ?_
 try simp only [SS]
 all_goals exact fz
def ah:cY 191 aV:=W1 10 F mix aJ bH (gH Z72.ah Z16.ah) Tryz.func191
end Z73
namespace Z74
def F (x0 x1:bz)(x2:an):aD:=(cond (x1.bp==2) (call (Z44.R (x2,x0.cg,x1)) fun v1=>ret (v1:aY)) (cond (x1.bp==3) (call (Z44.R (x2,x0.bZ,x1)) fun v2=>ret (v2:aY)) (call (Z44.R (x2,x0.cq,x1)) fun v3=>ret (v3:aY))))
def md (a0 a1:ay)(a2:List Int):af:=(cond (a1.bp==2) (Z44.md a2 a0.cg a1) (cond (a1.bp==3) (Z44.md a2 a0.bZ a1) (Z44.md a2 a0.cq a1)))
def gd (a0 a1:ay)(a2:List Int):Prop:=(ay.Sm (2^21) a0)/\(ay.Sm (2^21) a1)/\(bn (2^38) (fun y:Int=>True) a2)
def R:=ot gd md
def aq {a0 a1 a2}(h:gd a0 a1 a2):R ((ay.r a0),(ay.r a1),(a2.map bh))=some (af.r (md a0 a1 a2)):=nZ h
def aV:=CN [.agg sZ,.agg sZ,pL 3] (.agg f78) RT.dec R
def bH (a0)(a1)(a2)(hg:gd a0 a1 a2):F (ay.r a0) (ay.r a1) (a2.map bh)=ret (af.r (md a0 a1 a2)):=by
 obtain ⟨H0,H1,H2⟩:=hg
 unfold F md
 try simp only [SS]
 refine au (fun b:af=>ret ((af.r b):aY)) (fun c1=>?_) (fun c1=>?_)
 ·refine ct (Z44.aq ⟨H2,H0.2.1,H1⟩) ?_
  try simp only [SS]
  all_goals exact fz
 ·refine au (fun b:af=>ret ((af.r b):aY)) (fun c2=>?_) (fun c2=>?_)
  ·refine ct (Z44.aq ⟨H2,H0.2.2,H1⟩) ?_
   try simp only [SS]
   all_goals exact fz
  ·refine ct (Z44.aq ⟨H2,H0.1,H1⟩) ?_
   try simp only [SS]
   all_goals exact fz
def ah:cY 193 aV:=W3 28 F mix aJ bH (dV Z44.ah) Tryz.func193
def fY {a0 a1:ay}{a2:List Int}(hg:gd a0 a1 a2):af.Sm (2^21) (md a0 a1 a2):=by
 unfold gd at hg;unfold md
 simp only [Bool.cond_eq_ite]
 repeat' split
 ·exact Z44.fY ⟨hg.2.2,hg.1.2.1,hg.2.1⟩
 ·exact Z44.fY ⟨hg.2.2,hg.1.2.2,hg.2.1⟩
 ·exact Z44.fY ⟨hg.2.2,hg.1.1,hg.2.1⟩
end Z74
namespace Z75
def F (x0:an)(x1:aY):aD:=(call (Z61.R x0) fun v1=>(cond (!v1.2) (call (Z72.R x0) fun v2=>ret ((v2,2):an×Int)) (cond ((x0.length:Int)>=12) (call (Z72.R x0) fun v3=>ret ((v3,2):an×Int)) (call (Z57.R (v1.1,x1)) fun v4=>(cond (v4 != 1) (call (Z72.R x0) fun v5=>ret ((v5,v4):an×Int)) (call (Z72.R x0) fun v6=>(call (Z71.R x1) fun v7=>(cX (fu (((v6.length:Int)+1)*200)) (ret (((v6++[(aY.enc v7)]),1):an×Int))))))))))
def md (a0:List af)(a1:af):List af×Int:=(cond (!(Z61.md a0).2) (a0,2) (cond ((a0.length:Int)>=12) (a0,2) (cond ((Z57.md ((Z61.md a0).1) a1) != 1) (a0,(Z57.md ((Z61.md a0).1) a1)) ((a0++[a1]),1))))
def gd (a0:List af)(a1:af):Prop:=(bn (2^21) (fun y:af=>af.Sm (2^21) y) a0)/\(af.Sm (2^21) a1)
def R:=eA gd md
def aq {a0 a1}(h:gd a0 a1):R ((a0.map af.row),(af.r a1))=some (((md a0 a1).1.map af.row),(md a0 a1).2):=eB h
def aV:=CN [pL 78,.agg CV] (.gK [(false,[.fr 78]),(false,[fI])]) RT.dec R
def bH (a0)(a1)(hg:gd a0 a1):F (a0.map af.row) (af.r a1)=ret (((md a0 a1).1.map af.row),(md a0 a1).2):=by
 obtain ⟨H0,H1⟩:=hg
 unfold F md
 try simp only [SS]
 refine ct (Z61.aq H0) ?_
 try simp only [SS]
 refine au (fun b:List af×Int=>ret (((b.1.map af.row),b.2):an×Int)) (fun c1=>?_) (fun c1=>?_)
 ·refine ct (Z72.aq H0) ?_
  try simp only [SS]
  all_goals exact fz
 ·have dc1:=c1
  try simp only [DC] at dc1
  refine au (fun b:List af×Int=>ret (((b.1.map af.row),b.2):an×Int)) (fun c2=>?_) (fun c2=>?_)
  ·refine ct (Z72.aq H0) ?_
   try simp only [SS]
   all_goals exact fz
  ·have dc2:=c2
   try simp only [DC] at dc2
   refine ct (Z57.aq ⟨(Z61.fY (a0:=a0) H0),H1⟩) ?_
   refine au (fun b:List af×Int=>ret (((b.1.map af.row),b.2):an×Int)) (fun c3=>?_) (fun c3=>?_)
   ·refine ct (Z72.aq H0) ?_
    try simp only [SS]
    all_goals exact fz
   ·have dc3:=c3
    try simp only [DC] at dc3
    refine ct (Z72.aq H0) ?_
    try simp only [SS]
    refine ct (Z71.aq H1) ?_
    try simp only [SS]
    refine aW (have:=(H0).1;lm) ?_
    all_goals exact fz
def ah:cY 139 aV:=W2 37 F mix aJ bH (tG Z61.ah Z72.ah Z57.ah Z71.ah) Tryz.func139
def fY {a0:List af}{a1:af}(hg:gd a0 a1):bn (2^21) (fun y:af=>af.Sm (2^21) y) ((md a0 a1).1):=by
 unfold gd at hg;unfold md
 simp only [Bool.cond_eq_ite]
 repeat' split
 all_goals first | exact hg.1 | skip
 rename_i h1 h2 h3
 have h2:¬((a0.length:Int)>=12):=by simpa using h2
 exact ⟨by simp;omega,fun x hx=>(List.mem_append.1 hx).elim (hg.1.2 x) (fun h=>by simp at h;subst h;exact hg.2)⟩
def DP (a0:List af)(a1:af):(md a0 a1).1=a0∨(md a0 a1).1=a0++[a1]:=by
 unfold md
 cases (!(Z61.md a0).2)<;>simp only [aL,aT]
 ·cases decide ((a0.length:Int)>=12)<;>simp only [aL,aT]
  ·cases (Z57.md ((Z61.md a0).1) a1) != 1<;>simp only [aL,aT]
   ·simp
   ·simp
  ·simp
 ·simp
def CW (a0:List af)(a1:af):a0.length<=(md a0 a1).1.length:=by
 rcases DP a0 a1 with h | h<;>rw [h]<;>simp
end Z75
namespace Z76
def F (x0:bS)(x1:an)(x2:bz)(x3:an):aD:=(call (Z61.R x0.aI) fun v1=>(call (Z63.R x0) fun v2=>(cond (!v2) (call (Z73.R x0) fun v3=>ret ((v3,2):bS×Int)) (call (Z74.R (v1.1,x2,x1)) fun v4=>(call (Z75.R (x0.aI,v4)) fun v5=>(cond (v5.2 != 1) (call (Z73.R x0) fun v6=>ret ((v6,v5.2):bS×Int)) (call (Z16.R x3) fun v7=>(call (Z63.R (⟨v5.1,v7⟩:bS)) fun v8=>(cond (!v8) (call (Z73.R x0) fun v9=>ret ((v9,2):bS×Int)) (ret (((⟨v5.1,v7⟩:bS),1):bS×Int)))))))))))
def md (a0:aN)(a1:List Int)(a2:ay)(a3:List aa):aN×Int:=(cond (!(Z63.md a0)) (a0,2) (cond ((Z75.md a0.aI (Z74.md ((Z61.md a0.aI).1) a2 a1)).2 != 1) (a0,(Z75.md a0.aI (Z74.md ((Z61.md a0.aI).1) a2 a1)).2) (cond (!(Z63.md (⟨(Z75.md a0.aI (Z74.md ((Z61.md a0.aI).1) a2 a1)).1,a3⟩:aN))) (a0,2) ((⟨(Z75.md a0.aI (Z74.md ((Z61.md a0.aI).1) a2 a1)).1,a3⟩:aN),1))))
def gd (a0:aN)(a1:List Int)(a2:ay)(a3:List aa):Prop:=(aN.Sm (2^21) a0)/\(bn (2^38) (fun y:Int=>True) a1)/\(ay.Sm (2^21) a2)/\(bn (2^21) (fun y:aa=>aa.Sm (2^21) y) a3)
def R:=xL gd md
def aq {a0 a1 a2 a3}(h:gd a0 a1 a2 a3):R ((aN.r a0),(a1.map bh),(ay.r a2),(a3.map aa.row))=some ((aN.r (md a0 a1 a2 a3).1),(md a0 a1 a2 a3).2):=yg h
def aV:=CN [.agg xd,pL 3,.agg sZ,pL 53] (.gK [(true,f139),(false,[fI])]) RT.dec R
def bH (a0)(a1)(a2)(a3)(hg:gd a0 a1 a2 a3):F (aN.r a0) (a1.map bh) (ay.r a2) (a3.map aa.row)=ret ((aN.r (md a0 a1 a2 a3).1),(md a0 a1 a2 a3).2):=by
 obtain ⟨H0,H1,H2,H3⟩:=hg
 unfold F md
 try simp only [SS]
 refine ct (Z61.aq H0.1) ?_
 try simp only [SS]
 refine ct (Z63.aq H0) ?_
 refine au (fun b:aN×Int=>ret (((aN.r b.1),b.2):bS×Int)) (fun c1=>?_) (fun c1=>?_)
 ·refine ct (Z73.aq H0) ?_
  try simp only [SS]
  all_goals exact fz
 ·refine ct (Z74.aq ⟨(Z61.fY (a0:=a0.aI) H0.1),H2,H1⟩) ?_
  try simp only [SS]
  refine ct (Z75.aq ⟨H0.1,(Z74.fY (a0:=(Z61.md a0.aI).1) (a1:=a2) (a2:=a1) ⟨(Z61.fY (a0:=a0.aI) H0.1),H2,H1⟩)⟩) ?_
  try simp only [SS]
  refine au (fun b:aN×Int=>ret (((aN.r b.1),b.2):bS×Int)) (fun c2=>?_) (fun c2=>?_)
  ·refine ct (Z73.aq H0) ?_
   try simp only [SS]
   all_goals exact fz
  ·refine ct (Z16.aq H3) ?_
   try simp only [SS]
   refine ct (Z63.aq (a0:=(⟨(Z75.md a0.aI (Z74.md ((Z61.md a0.aI).1) a2 a1)).1,a3⟩:aN)) ⟨(Z75.fY (a0:=a0.aI) (a1:=Z74.md ((Z61.md a0.aI).1) a2 a1) ⟨H0.1,(Z74.fY (a0:=(Z61.md a0.aI).1) (a1:=a2) (a2:=a1) ⟨(Z61.fY (a0:=a0.aI) H0.1),H2,H1⟩)⟩),H3⟩) ?_
   refine au (fun b:aN×Int=>ret (((aN.r b.1),b.2):bS×Int)) (fun c3=>?_) (fun c3=>?_)
   ·refine ct (Z73.aq H0) ?_
    try simp only [SS]
    all_goals exact fz
   ·all_goals exact fz
def ah:cY 192 aV:=W4 51 F mix aJ bH (vN Z61.ah Z63.ah Z73.ah Z74.ah Z75.ah Z16.ah) Tryz.func192
def CO {k:Nat}{a0:List af}{n:Nat}(hn:n<=2^21)(h:bn n (fun y:af=>af.Sm k y) a0):ay.Sm k (Z61.md a0).1:=by
 have h2:=h.1
 unfold Z61.md
 cases hc:Z60.md a0<;>simp only [Bool.not_true,Bool.not_false,aL,aT]
 ·exact ⟨bn.nil,bn.nil,bn.nil⟩
 ·have:=(Z60.tr hc).1
  exact (bn.getD h (by simp (disch:=omega) only [Go.IntWalk.i64_in];omega)).1
def nextK {k:Nat}{a0:ay}{a1 a2 a3:Int}(h:ay.Sm k a0):ay.Sm k (Z69.md a0 a1 a2 a3).1:=by
 unfold Z69.md
 simp only [Bool.cond_eq_ite]
 repeat' split
 all_goals first | exact ⟨bn.nil,bn.nil,bn.nil⟩ | exact ⟨h.1,h.2.1,h.2.2⟩
def yU {k:Nat}{a0:ay}{a1:List aa}{a2 a3:Int}(h:ay.Sm k a0):ay.Sm k (Z70.md a0 a1 a2 a3).1:=by
 have h1:=nextK (a1:=1) (a2:=a2) (a3:=a3) h
 unfold Z70.md
 simp only [Bool.cond_eq_ite]
 repeat' split
 all_goals first | exact ⟨bn.nil,bn.nil,bn.nil⟩ | exact ⟨h1.1,h1.2.1,h1.2.2⟩
def CE {k:Nat}{a0 a1:ay}{a2:List Int}(h:ay.Sm k a0)(h1:ay.Sm k a1):af.Sm k (Z74.md a0 a1 a2):=by
 unfold Z74.md
 simp only [Bool.cond_eq_ite]
 repeat' split
 ·exact Z44.BA h.2.1 h1
 ·exact Z44.BA h.2.2 h1
 ·exact Z44.BA h.1 h1
def za {k:Nat}{a0:List af}{a1:af}(h:bn 12 (fun y:af=>af.Sm k y) a0)(h1:af.Sm k a1):bn 12 (fun y:af=>af.Sm k y) (Z75.md a0 a1).1:=by
 unfold Z75.md
 simp only [Bool.cond_eq_ite]
 repeat' split
 all_goals first | exact h | skip
 rename_i h1 h2 h3
 have h2:¬((a0.length:Int)>=12):=by simpa using h2
 exact ⟨by simp;omega,fun x hx=>(List.mem_append.1 hx).elim (h.2 x) (fun h=>by simp at h;subst h;assumption)⟩
def Ey {z:aN}(h:Z63.md z=true):Z15.md z.ck=true:=by
 unfold Z63.md at h
 revert h
 simp only [Bool.cond_eq_ite]
 repeat' split
 all_goals first | (intro h;cases h) | skip
 intro h
 unfold Z62.md at h
 cases e:Z15.md z.ck
 ·rw [e] at h;cases h
 ·rfl
def ok {z:aN}{k:List Int}{h:ay}{l:List aa}(hz:Z45.ok z)(hh:ay.Sm 64 h)(hl:∀z∈l,aa.Sm 64 z):Z45.ok (md z k h l).1:=by
 unfold md
 simp only [Bool.cond_eq_ite]
 repeat' split
 all_goals first | exact hz | skip
 rename_i h1 h2 h3
 have h3:=Ey (by simpa using h3)
 have hs:=CE (a2:=k) (CO (by decide) hz.1.2) hh
 exact ⟨⟨le_trans hz.1.1 (Z75.CW _ _),za hz.1.2 hs⟩,⟨Z15.tr h3,hl⟩,h3⟩
end Z76
namespace Z77
def F (x0:bS)(x1 x2:an)(x3 x4:Int):aD:=(call (Z61.R x0.aI) fun v1=>(call (Z70.R (v1.1,x2,x3,x4)) fun v2=>(cond (!v2.2) (call (Z73.R x0) fun v3=>ret ((v3,2):bS×Int)) (call (Z63.R x0) fun v4=>(cond (!v4) (call (Z73.R x0) fun v5=>ret ((v5,2):bS×Int)) (call (Z76.R (x0,x1,v2.1,x2)) fun v6=>ret ((v6.1,v6.2):bS×Int)))))))
def md (a0:aN)(a1:List Int)(a2:List aa)(a3 a4:Int):aN×Int:=(cond (!(Z70.md ((Z61.md a0.aI).1) a2 a3 a4).2) (a0,2) (cond (!(Z63.md a0)) (a0,2) ((Z76.md a0 a1 ((Z70.md ((Z61.md a0.aI).1) a2 a3 a4).1) a2).1,(Z76.md a0 a1 ((Z70.md ((Z61.md a0.aI).1) a2 a3 a4).1) a2).2)))
def gd (a0:aN)(a1:List Int)(a2:List aa)(a3 a4:Int):Prop:=(aN.Sm (2^21) a0)/\(bn (2^38) (fun y:Int=>True) a1)/\(bn (2^21) (fun y:aa=>aa.Sm (2^21) y) a2)
def R:=zk gd md
def aq {a0 a1 a2 a3 a4}(h:gd a0 a1 a2 a3 a4):R ((aN.r a0),(a1.map bh),(a2.map aa.row),a3,a4)=some ((aN.r (md a0 a1 a2 a3 a4).1),(md a0 a1 a2 a3 a4).2):=zB h
def aV:=CN [.agg xd,pL 3,pL 53,pI,pI] (.gK [(true,f139),(false,[fI])]) RT.dec R
def bH (a0)(a1)(a2)(a3)(a4)(hg:gd a0 a1 a2 a3 a4):F (aN.r a0) (a1.map bh) (a2.map aa.row) a3 a4=ret ((aN.r (md a0 a1 a2 a3 a4).1),(md a0 a1 a2 a3 a4).2):=by
 obtain ⟨H0,H1,H2⟩:=hg
 unfold F md
 try simp only [SS]
 refine ct (Z61.aq H0.1) ?_
 try simp only [SS]
 refine ct (Z70.aq ⟨(Z61.fY (a0:=a0.aI) H0.1),H2⟩) ?_
 try simp only [SS]
 refine au (fun b:aN×Int=>ret (((aN.r b.1),b.2):bS×Int)) (fun c1=>?_) (fun c1=>?_)
 ·refine ct (Z73.aq H0) ?_
  try simp only [SS]
  all_goals exact fz
 ·refine ct (Z63.aq H0) ?_
  refine au (fun b:aN×Int=>ret (((aN.r b.1),b.2):bS×Int)) (fun c2=>?_) (fun c2=>?_)
  ·refine ct (Z73.aq H0) ?_
   try simp only [SS]
   all_goals exact fz
  ·refine ct (Z76.aq ⟨H0,H1,(Z70.fY (a0:=(Z61.md a0.aI).1) (a1:=a2) (a2:=a3) (a3:=a4) ⟨(Z61.fY (a0:=a0.aI) H0.1),H2⟩),H2⟩) ?_
   try simp only [SS]
   all_goals exact fz
def ah:cY 150 aV:=W5 46 F mix aJ bH (xY Z61.ah Z70.ah Z73.ah Z63.ah Z76.ah) Tryz.func150
def ok {z:aN}{k:List Int}{l:List aa}{now term:Int}(hz:Z45.ok z)(hl:∀z∈l,aa.Sm 64 z):Z45.ok (md z k l now term).1:=by
 have h:=Z76.ok (k:=k) hz (Z76.yU (a1:=l) (a2:=now) (a3:=term) (Z76.CO (by decide) hz.1.2)) hl
 unfold md
 simp only [Bool.cond_eq_ite]
 repeat' split
 all_goals first | exact hz | exact h
end Z77
namespace Z78
def F (x0:an)(x1 x2:Int):aD:=(call (Z2.R 3) fun v1=>(call (Z18.R (x0,x1,x2)) fun v2=>(call (Z45.R (v1,3,v2.2.2.2,0,150)) fun v3=>(call (Z2.R 2) fun v4=>(call (Z18.R (x0,v2.2.1,v2.2.2.1)) fun v5=>(call (Z45.R (v4,2,v5.2.2.2,0,150)) fun v6=>(call (Z18.R (x0,v5.2.1,v5.2.2.1)) fun v7=>(call (Z64.R v3.1) fun v8=>(call (Z65.R ((⟨#[115,104,111,112]⟩:av),v8)) fun v9=>(call (Z17.R (v7.2.2.2,v9)) fun v10=>(call (Z64.R v6.1) fun v11=>(call (Z6.R (x0,v7.2.1,v7.2.2.1)) fun v12=>(call (Z66.R ((⟨#[109,97,105,108]⟩:av),v11,[[L.str v12.2.2.2]])) fun v13=>(call (Z17.R (v10.1,v13)) fun v14=>(call (Z67.R (x0,v12.2.1,v12.2.2.1,3)) fun v15=>(cond v15.2.2.2 (call (Z64.R v6.1) fun v16=>(call (Z5.R (x0,v15.2.1,v15.2.2.1,[[L.str (⟨#[98,111,98]⟩:av)],[L.str (⟨#[97,110,110]⟩:av)],[L.str (⟨#[109,97,105,108]⟩:av)]])) fun v17=>(call (Z66.R ((⟨#[98,111,98]⟩:av),v16,[[L.str v17.2.2.2]])) fun v18=>(call (Z17.R (v6.1.ck,v18)) fun v19=>(call (Z77.R (v6.1,[[L.int 2]],v19.1,1,150)) fun v20=>(call (Z2.R 1) fun v21=>(call (Z45.R (v21,1,v14.1,0,150)) fun v22=>ret ((Hl.mk,v17.2.1,v17.2.2.1,[(bS.enc v22.1),(bS.enc v3.1),(bS.enc v20.1)]):Hl×Int×Int×an)))))))) (call (Z2.R 1) fun v23=>(call (Z45.R (v23,1,v14.1,0,150)) fun v24=>ret ((Hl.mk,v15.2.1,v15.2.2.1,[(bS.enc v24.1),(bS.enc v3.1),(bS.enc v6.1)]):Hl×Int×Int×an)))))))))))))))))))
abbrev cG:List K:=[.sl 5,aQ,aQ]
def pats:List (Option fH):=[none]
def res:RP:=.one (.fr 139)
abbrev E:Env:={ T:=assoc mD,G:=cN [(145,Z2.aV),(144,Z45.aV),(148,Z64.aV),(109,Z65.aV),(147,Z17.aV),(110,Z66.aV),(150,Z77.aV)],nt:=79,M:=eL [],np:=(nC cG),mt:=false,I:=fV [(146,Z18.ic (nC cG)),(108,Z6.ic (nC cG)),(76,Z67.ic (nC cG)),(149,Z5.ic (nC cG))] }
def run_eq (n:Nat)(ls:List L):eS E (fun _=>[]) Tryz.f101 (.cur cG res.parts) n (gr cG pats ls)=F (fc ls) (cA 1 ls) (cA 2 ls):=by kernel_rfl
def gd (x0:an)(x1 x2:Int):Prop:=CI x0 x1
def post (x0:an)(x1 x2:Int)(y:Hl×Int×Int×an):Prop:=CI x0 y.2.1/\∃zs:List aN,y.2.2.2=zs.map aN.row/\zs.length=3/\∀z∈zs,Z45.ok z
def wp (x0:an)(x1 x2:Int)(hg:gd x0 x1 x2):Wp (F x0 x1 x2) (post x0 x1 x2):=by
 unfold F
 have big:∀{l:List aa} {n:Nat},n<=2^21->bn n (fun z:aa=>aa.Sm 64 z) l->bn (2^21) (fun z:aa=>aa.Sm (2^21) z) l:=fun hn h=>h.mono hn fun _ h=>aa.bC (by decide) h
 have th:∀{l:List aa} {n:Nat},bn n (fun z:aa=>aa.Sm 64 z) l->Z15.md l=true->bn 12 (fun z:aa=>aa.Sm 64 z) l:=fun h ha=>⟨Z15.tr ha,h.2⟩
 have up:∀{l:List aa},bn 12 (fun z:aa=>aa.Sm 64 z) l->bn 1000 (fun z:aa=>aa.Sm 64 z) l:=fun h=>h.mono (by decide) fun _ h=>h
 have k1:∀n:Int,aM.Sm (2^21) (Z2.md n):=fun n=>⟨show (1:Nat)<=2^21 by decide,fun _ _=>trivial⟩
 have zz:∀{z:aN},Z45.ok z->aN.Sm (2^21) z:=fun h=>aN.bC (by decide) (Z45.AP h)
 have one:∀{b:av},b.size<=16->bn 64 (fun y:av=>y.size<=64) [b]:=fun h=>⟨by simp,fun y hy=>by simp at hy;subst hy;omega⟩
 refine bD (Z2.aq (a0:=3) trivial) (Z18.cF hg (fun v2 ⟨c2,l2,e2,s2,a2⟩=>?_))
 rw [e2]
 have o2:Z45.ok (Z45.md (Z2.md 3) 3 l2 0 150).1:=Z45.xN (by decide) (by decide) (by decide) (by decide) (by decide) s2.2 a2
 refine bD (Z45.aq (a0:=Z2.md 3) (a1:=3) (a2:=l2) (a3:=0) (a4:=150) ⟨k1 3,big (by decide) s2⟩) ?_
 generalize Z45.md (Z2.md 3) 3 l2 0 150=z2 at o2 ⊢
 refine bD (Z2.aq (a0:=2) trivial) (Z18.cF c2 (fun v5 ⟨c5,l5,e5,s5,a5⟩=>?_))
 rw [e5]
 have o5:Z45.ok (Z45.md (Z2.md 2) 2 l5 0 150).1:=Z45.xN (by decide) (by decide) (by decide) (by decide) (by decide) s5.2 a5
 refine bD (Z45.aq (a0:=Z2.md 2) (a1:=2) (a2:=l5) (a3:=0) (a4:=150) ⟨k1 2,big (by decide) s5⟩) ?_
 generalize Z45.md (Z2.md 2) 2 l5 0 150=z5 at o5 ⊢
 refine Z18.cF c5 (fun v7 ⟨c7,l7,e7,s7,a7⟩=>?_)
 rw [e7]
 refine bD (Z64.aq (a0:=z2.1) (zz o2)) (bD (Z65.aq trivial) ?_)
 refine Z17.cF ⟨⟨l7,rfl,up (th s7 a7),a7⟩,_,rfl,(show (4:Nat)<=64 by decide),zero_le _,fun _ h=>(nomatch h)⟩ (fun v10 ⟨l10,e10,s10,a10⟩=>?_)
 rw [e10]
 refine bD (Z64.aq (a0:=z5.1) (zz o5)) (Z6.cF c7 (fun v12 ⟨c12,s12⟩=>?_))
 refine bD (Z66.aq (a2:=[v12.2.2.2]) ((one s12).mono (by decide) fun _ h=>le_trans h (by decide))) ?_
 refine Z17.cF ⟨⟨l10,rfl,up (th s10 a10),a10⟩,_,rfl,(show (4:Nat)<=64 by decide),one s12⟩ (fun v14 ⟨l14,e14,s14,a14⟩=>?_)
 rw [e14]
 have o14:Z45.ok (Z45.md (Z2.md 1) 1 l14 0 150).1:=Z45.xN (by decide) (by decide) (by decide) (by decide) (by decide) s14.2 a14
 refine Z67.cF c12 (fun v15 c15=>wp_cond (fun _=>?_) (fun _=>?_))
 ·refine bD (Z64.aq (a0:=z5.1) (zz o5)) (Z5.cF ⟨c15,by show 0<3;decide⟩ (fun v17 ⟨c17,i,hi,e17⟩=>?_))
  have s17:v17.2.2.2.size<=16:=by rw [e17];exact mP rfl hi
  clear e17
  refine bD (Z66.aq (a2:=[v17.2.2.2]) ((one s17).mono (by decide) fun _ h=>le_trans h (by decide))) ?_
  refine Z17.cF ⟨⟨z5.1.ck,rfl,up o5.2.1,o5.2.2⟩,_,rfl,(show (3:Nat)<=64 by decide),one s17⟩ (fun v19 ⟨l19,e19,s19,a19⟩=>?_)
  rw [e19]
  refine bD (Z77.aq (a0:=z5.1) (a1:=[2]) (a2:=l19) (a3:=1) (a4:=150) ⟨zz o5,⟨show (1:Nat)<=2^38 by decide,fun _ _=>trivial⟩,big (by decide) (th s19 a19)⟩) ?_
  have o20:=Z77.ok (k:=[2]) (now:=1) (term:=150) o5 s19.2
  generalize Z77.md z5.1 [2] l19 1 150=z20 at o20 ⊢
  refine bD (Z2.aq (a0:=1) trivial) (bD (Z45.aq (a0:=Z2.md 1) (a1:=1) (a2:=l14) (a3:=0) (a4:=150) ⟨k1 1,big (by decide) (th s14 a14)⟩) (wp_ret ⟨c17,[(Z45.md (Z2.md 1) 1 l14 0 150).1,z2.1,z20.1],rfl,rfl,fun z hz=>?_⟩))
  simp only [List.mem_cons,List.not_mem_nil,or_false] at hz
  rcases hz with h | h | h<;>rw [h]<;>assumption
 ·refine bD (Z2.aq (a0:=1) trivial) (bD (Z45.aq (a0:=Z2.md 1) (a1:=1) (a2:=l14) (a3:=0) (a4:=150) ⟨k1 1,big (by decide) (th s14 a14)⟩) (wp_ret ⟨c15,[(Z45.md (Z2.md 1) 1 l14 0 150).1,z2.1,z5.1],rfl,rfl,fun z hz=>?_⟩))
  simp only [List.mem_cons,List.not_mem_nil,or_false] at hz
  rcases hz with h | h | h<;>rw [h]<;>assumption
def R:(an×Int×Int)->Option (Hl×Int×Int×an):=RQ (fun _ x=>F x.1 x.2.1 x.2.2) (fun x=>post x.1 x.2.1 x.2.2)
def cF {x0:an}{x1 x2:Int}{γ:Type}[RT γ]{k:(Hl×Int×Int×an)->aD}{Q:γ->Prop}(hg:gd x0 x1 x2)(hk:∀y,post x0 x1 x2 y->Wp (k y) Q):Wp (call (R (x0,x1,x2)) k) Q:=dY ⟨0,wp x0 x1 x2 hg⟩ hk
def acc (ls:List L):an×Int×Int:=((fc ls),(cA 1 ls),(cA 2 ls))
def aV:iL:=CC cG pats res acc R
def ah:fG Tryz.prog Ev 101 aV:=VC (live:=(fun _=>[])) (mt:=false) mix aJ (Cd Z2.ah Z45.ah Z64.ah Z65.ah Z17.ah Z66.ah Z77.ah) .nil (.cons (Z18.bq (nC cG)) (.cons (Z6.bq (nC cG)) (.cons (Z67.bq (nC cG)) (.cons (Z5.bq (nC cG)) .nil)))) Tryz.func101 (by kernel_rfl) run_eq
def ic (_:Nat):fU:=iQ Ev aV
def bq (n:Nat):dh Tryz.prog Ev n 101 (ic n):=dF ah
end Z78
namespace Z79
def F (x0:an)(x1 x2:Int)(x3:bS):aD:=(call (Z73.R x3) fun v1=>(cond ((v1.aI.length:Int)>1) (cX ((0:Int)<=(i64.wrap ((v1.aI.length:Int) - 1))) (cX ((i64.wrap ((v1.aI.length:Int) - 1))<=(v1.aI.length:Int)) (cX ((0:Int)<=(i64.wrap (((List.take (toNat ((i64.wrap ((v1.aI.length:Int) - 1)) - 0)) (List.drop 0 v1.aI)).length:Int) - 1))) (cX ((i64.wrap (((List.take (toNat ((i64.wrap ((v1.aI.length:Int) - 1)) - 0)) (List.drop 0 v1.aI)).length:Int) - 1))<((List.take (toNat ((i64.wrap ((v1.aI.length:Int) - 1)) - 0)) (List.drop 0 v1.aI)).length:Int)) (call (Z4.R (x0,x1,x2,9)) fun v2=>(call (Z7.R ((⟨#[101,118,105,108]⟩:av),v2.2.2.2)) fun v3=>(call (Z17.R (v1.ck,v3)) fun v4=>(call (Z4.R (x0,v2.2.1,v2.2.2.1,9)) fun v5=>(call (Z70.R ((aY.at (List.take (toNat ((i64.wrap ((v1.aI.length:Int) - 1)) - 0)) (List.drop 0 v1.aI)) (toNat (i64.wrap (((List.take (toNat ((i64.wrap ((v1.aI.length:Int) - 1)) - 0)) (List.drop 0 v1.aI)).length:Int) - 1)))).aG,v4.1,(i64.wrap ((i64.wrap ((aY.at (List.take (toNat ((i64.wrap ((v1.aI.length:Int) - 1)) - 0)) (List.drop 0 v1.aI)) (toNat (i64.wrap (((List.take (toNat ((i64.wrap ((v1.aI.length:Int) - 1)) - 0)) (List.drop 0 v1.aI)).length:Int) - 1)))).aG.dy+1))+v5.2.2.2)),100)) fun v6=>(cond (!v6.2) (ret ((Hl.mk,v5.2.1,v5.2.2.1,x3):Hl×Int×Int×bS)) (call (Z74.R ((aY.at (List.take (toNat ((i64.wrap ((v1.aI.length:Int) - 1)) - 0)) (List.drop 0 v1.aI)) (toNat (i64.wrap (((List.take (toNat ((i64.wrap ((v1.aI.length:Int) - 1)) - 0)) (List.drop 0 v1.aI)).length:Int) - 1)))).aG,v6.1,(aY.at (List.take (toNat ((i64.wrap ((v1.aI.length:Int) - 1)) - 0)) (List.drop 0 v1.aI)) (toNat (i64.wrap (((List.take (toNat ((i64.wrap ((v1.aI.length:Int) - 1)) - 0)) (List.drop 0 v1.aI)).length:Int) - 1)))).aG.cq.bR)) fun v7=>(call (Z75.R ((List.take (toNat ((i64.wrap ((v1.aI.length:Int) - 1)) - 0)) (List.drop 0 v1.aI)),v7)) fun v8=>(cond (v8.2 != 1) (ret ((Hl.mk,v5.2.1,v5.2.2.1,x3):Hl×Int×Int×bS)) (ret ((Hl.mk,v5.2.1,v5.2.2.1,(⟨v8.1,v4.1⟩:bS)):Hl×Int×Int×bS))))))))))))))) (cX ((0:Int)<=(i64.wrap ((v1.aI.length:Int) - 1))) (cX ((i64.wrap ((v1.aI.length:Int) - 1))<(v1.aI.length:Int)) (call (Z4.R (x0,x1,x2,9)) fun v9=>(call (Z7.R ((⟨#[101,118,105,108]⟩:av),v9.2.2.2)) fun v10=>(call (Z17.R (v1.ck,v10)) fun v11=>(call (Z4.R (x0,v9.2.1,v9.2.2.1,9)) fun v12=>(call (Z70.R ((aY.at v1.aI (toNat (i64.wrap ((v1.aI.length:Int) - 1)))).aG,v11.1,(i64.wrap ((i64.wrap ((aY.at v1.aI (toNat (i64.wrap ((v1.aI.length:Int) - 1)))).aG.dy+1))+v12.2.2.2)),100)) fun v13=>(cond (!v13.2) (ret ((Hl.mk,v12.2.1,v12.2.2.1,x3):Hl×Int×Int×bS)) (call (Z74.R ((aY.at v1.aI (toNat (i64.wrap ((v1.aI.length:Int) - 1)))).aG,v13.1,(aY.at v1.aI (toNat (i64.wrap ((v1.aI.length:Int) - 1)))).aG.cq.bR)) fun v14=>(call (Z75.R (v1.aI,v14)) fun v15=>(cond (v15.2 != 1) (ret ((Hl.mk,v12.2.1,v12.2.2.1,x3):Hl×Int×Int×bS)) (ret ((Hl.mk,v12.2.1,v12.2.2.1,(⟨v15.1,v11.1⟩:bS)):Hl×Int×Int×bS)))))))))))))))
abbrev cG:List K:=[.sl 5,aQ,aQ]
def pats:List (Option fH):=[none,some (.agg [.sl 78,.sl 53])]
def res:RP:=.agg [.rd (.sl 78),.rd (.sl 53)]
abbrev E:Env:={ T:=assoc mD,G:=cN [(191,Z73.aV),(112,Z7.aV),(147,Z17.aV),(190,Z70.aV),(193,Z74.aV),(139,Z75.aV)],nt:=78,M:=eL [],np:=(nC cG),mt:=false,I:=fV [(52,Z4.ic (nC cG))] }
def run_eq (n:Nat)(ls:List L):eS E (fun _=>[]) Tryz.f151 (.cur cG res.parts) n (gr cG pats ls)=F (fc ls) (cA 1 ls) (cA 2 ls) (bS.dec (cD 3 ls)):=by kernel_rfl
def gd (x0:an)(x1 x2:Int)(x3:bS):Prop:=CI x0 x1/\∃z:aN,x3=aN.r z/\Z45.ok z
def post (x0:an)(x1 x2:Int)(x3:bS)(y:Hl×Int×Int×bS):Prop:=CI x0 y.2.1/\∃z:aN,y.2.2.2=aN.r z/\Z45.ok z
def wp (x0:an)(x1 x2:Int)(x3:bS)(hg:gd x0 x1 x2 x3):Wp (F x0 x1 x2 x3) (post x0 x1 x2 x3):=by
 obtain ⟨hc,z,rfl,hz⟩:=hg
 have go:∀ch:List af,1<=ch.length->bn 12 (fun y:af=>af.Sm 64 y) ch->Wp (cX ((0:Int)<=(i64.wrap (((ch.map af.row).length:Int) - 1))) (cX ((i64.wrap (((ch.map af.row).length:Int) - 1))<((ch.map af.row).length:Int)) (call (Z4.R (x0,x1,x2,9)) fun v9=>(call (Z7.R ((⟨#[101,118,105,108]⟩:av),v9.2.2.2)) fun v10=>(call (Z17.R ((z.ck.map aa.row),v10)) fun v11=>(call (Z4.R (x0,v9.2.1,v9.2.2.1,9)) fun v12=>(call (Z70.R ((aY.at (ch.map af.row) (toNat (i64.wrap (((ch.map af.row).length:Int) - 1)))).aG,v11.1,(i64.wrap ((i64.wrap ((aY.at (ch.map af.row) (toNat (i64.wrap (((ch.map af.row).length:Int) - 1)))).aG.dy+1))+v12.2.2.2)),100)) fun v13=>(cond (!v13.2) (ret ((Hl.mk,v12.2.1,v12.2.2.1,(aN.r z)):Hl×Int×Int×bS)) (call (Z74.R ((aY.at (ch.map af.row) (toNat (i64.wrap (((ch.map af.row).length:Int) - 1)))).aG,v13.1,(aY.at (ch.map af.row) (toNat (i64.wrap (((ch.map af.row).length:Int) - 1)))).aG.cq.bR)) fun v14=>(call (Z75.R ((ch.map af.row),v14)) fun v15=>(cond (v15.2 != 1) (ret ((Hl.mk,v12.2.1,v12.2.2.1,(aN.r z)):Hl×Int×Int×bS)) (ret ((Hl.mk,v12.2.1,v12.2.2.1,(⟨v15.1,v11.1⟩:bS)):Hl×Int×Int×bS))))))))))))) (post x0 x1 x2 (aN.r z)):=by
  intro ch h1 h2
  have h3:=h2.1
  have hw:i64.wrap (((ch.map af.row).length:Int) - 1)=(ch.length:Int) - 1:=by rw [List.length_map];exact wi _ (by omega)
  have hat:aY.at (ch.map af.row) (toNat (i64.wrap (((ch.map af.row).length:Int) - 1)))=af.r (ch.getD (ch.length - 1) af.zero):=by
   rw [hw,show ((ch.length:Int) - 1).toNat=ch.length - 1 by omega]
   unfold aY.at
   rw [List.getD_eq_getElem?_getD,List.getD_eq_getElem?_getD,List.getElem?_map,List.getElem?_eq_getElem (by omega)]
   rfl
  have hsm:af.Sm 64 (ch.getD (ch.length - 1) af.zero):=bn.getD h2 (by omega)
  rw [hat]
  generalize ch.getD (ch.length - 1) af.zero=s at hsm ⊢
  refine eX (decide_eq_true (by rw [hw];omega)) (eX (decide_eq_true (by rw [hw,List.length_map];omega)) ?_)
  refine Z4.cF hc (fun v9 ⟨c9,_⟩=>bD (Z7.aq trivial) (Z17.cF ⟨⟨z.ck,rfl,hz.2.1.mono (by decide) fun _ h=>h,hz.2.2⟩,_,rfl,(show (4:Nat)<=64 by decide),zero_le _,fun _ h=>(nomatch h)⟩ (fun v11 ⟨l11,e11,s11,a11⟩=>?_)))
  rw [e11]
  have t11:bn 12 (fun y:aa=>aa.Sm 64 y) l11:=⟨Z15.tr a11,s11.2⟩
  refine Z4.cF c9 (fun v12 ⟨c12,_⟩=>bD (Z70.aq (a0:=s.aG) (a1:=l11) ⟨ay.bC (by decide) hsm.1,t11.mono (by decide) fun _ h=>aa.bC (by decide) h⟩) ?_)
  have hk:=Z76.yU (a1:=l11) (a2:=i64.wrap (i64.wrap ((af.r s).aG.dy+1)+v12.2.2.2)) (a3:=100) hsm.1
  generalize Z70.md s.aG l11 (i64.wrap (i64.wrap ((af.r s).aG.dy+1)+v12.2.2.2)) 100=h at hk ⊢
  refine wp_cond (fun _=>wp_ret ⟨c12,z,rfl,hz⟩) (fun _=>bD (Z74.aq (a0:=s.aG) (a1:=h.1) (a2:=s.aG.cq.bR) ⟨ay.bC (by decide) hsm.1,ay.bC (by decide) hk,hsm.1.1.mono (by decide) fun _ h=>h⟩) ?_)
  have hs:=Z76.CE (a2:=s.aG.cq.bR) hsm.1 hk
  generalize Z74.md s.aG h.1 s.aG.cq.bR=q at hs ⊢
  refine bD (Z75.aq (a0:=ch) (a1:=q) ⟨h2.mono (by decide) fun _ h=>af.bC (by decide) h,af.bC (by decide) hs⟩) (wp_cond (fun _=>wp_ret ⟨c12,z,rfl,hz⟩) (fun _=>wp_ret ⟨c12,⟨(Z75.md ch q).1,l11⟩,rfl,⟨le_trans h1 (Z75.CW _ _),Z76.za h2 hs⟩,t11,a11⟩))
 unfold F
 have hl:=hz.1.2.1
 have hw:i64.wrap (((z.aI.map af.row).length:Int) - 1)=(z.aI.length:Int) - 1:=by rw [List.length_map];exact wi _ (by omega)
 refine bD (Z73.aq (a0:=z) (aN.bC (by decide) (Z45.AP hz))) (wp_cond (fun h1=>?_) (fun _=>go z.aI hz.1.1 hz.1.2))
 have h1:=of_decide_eq_true h1
 have h1:((z.aI.map af.row).length:Int)>1:=h1
 rw [List.length_map] at h1
 have e:List.take (toNat ((i64.wrap (((z.aI.map af.row).length:Int) - 1)) - 0)) (List.drop 0 (z.aI.map af.row))=(z.aI.take (z.aI.length - 1)).map af.row:=by
  rw [hw,List.drop_zero,List.map_take];congr 1;omega
 refine eX (decide_eq_true (by show 0<=i64.wrap (((z.aI.map af.row).length:Int) - 1);rw [hw];omega)) (eX (decide_eq_true (by show i64.wrap (((z.aI.map af.row).length:Int) - 1)<=((z.aI.map af.row).length:Int);rw [hw,List.length_map];omega)) ?_)
 have g:=go (z.aI.take (z.aI.length - 1)) (by rw [List.length_take];omega) ⟨by rw [List.length_take];omega,fun y hy=>hz.1.2.2 y (List.mem_of_mem_take hy)⟩
 rw [<-e] at g
 exact g
def R:(an×Int×Int×bS)->Option (Hl×Int×Int×bS):=RQ (fun _ x=>F x.1 x.2.1 x.2.2.1 x.2.2.2) (fun x=>post x.1 x.2.1 x.2.2.1 x.2.2.2)
def cF {x0:an}{x1 x2:Int}{x3:bS}{γ:Type}[RT γ]{k:(Hl×Int×Int×bS)->aD}{Q:γ->Prop}(hg:gd x0 x1 x2 x3)(hk:∀y,post x0 x1 x2 x3 y->Wp (k y) Q):Wp (call (R (x0,x1,x2,x3)) k) Q:=dY ⟨0,wp x0 x1 x2 x3 hg⟩ hk
def acc (ls:List L):an×Int×Int×bS:=((fc ls),(cA 1 ls),(cA 2 ls),(bS.dec (cD 3 ls)))
def aV:iL:=CC cG pats res acc R
def ah:fG Tryz.prog Ev 151 aV:=VC (live:=(fun _=>[])) (mt:=false) mix aJ (vN Z73.ah Z7.ah Z17.ah Z70.ah Z74.ah Z75.ah) .nil (.cons (Z4.bq (nC cG)) .nil) Tryz.func151 (by kernel_rfl) run_eq
def ic (_:Nat):fU:=iQ Ev aV
def bq (n:Nat):dh Tryz.prog Ev n 151 (ic n):=dF ah
end Z79
namespace Z80
inductive Pt where
 | p0 (a:Int) (b:bT) (c d:Int) (e:an)
def cZ:Pt->List V
 | .p0 a b c d e=>[.bK 0 0,.bK 1 0,.bK 2 0,.int .i64 a,.bK 2 0]
def eD:Pt->List aK
 | .p0 a b c d e=>[.box [.sl none 139 b.bE,.int .i64 b.ij],.box [.nil,.int .i64 c],.box [.own 3,.int .i64 d],.row 139 e]
def step (J:Pt->aD):Pt->aD
 | .p0 a b c d e=>(cond (a<(b.bE.length:Int)) (m2 a (b.bE.length:Int) (call (Z73.R (bS.at b.bE (toNat a))) fun v1=>(cX (fu (((e.length:Int)+1)*48)) (J (.p0 (i64.wrap (a+1)) b c d (e++[(bS.enc v1)])))))) (ret ((⟨e,d⟩:bT):bT)))
def start (J:Pt->aD)(x0:bT):aD:=J (.p0 0 x0 0 x0.ij [])
def live:Nat->Live:=iD [(3,[(1,none),(2,none),(3,none),(4,none),(3,some 139)])]
def md (a0:aF):aF:=a0
def gd (a0:aF):Prop:=(aF.Sm (2^21) a0)
def R:=RR gd md
def aq {a0}(h:gd a0):R (aF.r a0)=some (aF.r a0):=dX h
def aV:=CN [.agg Aw] (.agg f177) RT.dec R
def bH (a0)(hg:gd a0):∃n,start (iter step n) (aF.r a0)=ret (aF.r (md a0)):=by
 unfold gd at hg
 have H0:=hg
 unfold start md
 try simp only [SS]
 have Bh2:a0.bE.length<=maxLen:=(by
   have:=(H0).1
   try simp only [maxLen] at *
   omega)
 refine ex_eq (out:=(fun b:aF=>ret ((aF.r b):bT))) (hU (xs:=a0.bE) (z:=aN.zero) (t:=fun s3:List aN=>(⟨s3,a0.ij⟩:aF))) ?_
 refine dW (p:=Pt.p0 0 (aF.r a0) 0 a0.ij ([].map aN.row)) fz ?_
 refine bV (pt:=fun (i1:Nat) (s3:List aN)=>Pt.p0 (i1:Int) (aF.r a0) 0 a0.ij (s3.map aN.row)) (s:=([]:List aN)) (out:=(fun b:aF=>ret ((aF.r b):bT))) (fun (i1:Nat) (s3:List aN)=>s3.length<=([]:List Int).length+1*i1) (fun J i1 s3 h2 hih2=>?_) (fun s3 hih2=>?_) (by simp)
 ·simp only [step,SS]
  have gr_:=hih2
  try simp only [LN] at gr_
  have bb_:=Bh2
  simp only [maxLen] at bb_
  have:=(H0).1
  refine bf.yes (by apply decide_eq_true;omega) ?_
  refine bf.yes bA ?_
  refine bf.yes (bU h2) ?_
  refine cr (Z73.aq (bn.getD (z:=aN.zero) H0 h2)) ?_
  try simp only [SS]
  refine bf.yes lm ?_
  refine bf.inl (by
    have g_:=hih2
    try simp only [LN] at g_ ⊢
    first | omega | (simp;done) | (simp;omega)) ?_
  rw [aR h2 Bh2]
  all_goals exact fz
 ·simp only [step,SS]
  have gr_:=hih2
  try simp only [LN] at gr_
  have:=(H0).1
  refine dQ (by apply decide_eq_false;omega) ?_
  refine ⟨0,?_⟩
  all_goals exact fz
def ah:cY 194 aV:=L1 27 (fun _=>3) cZ eD live step start mix aJ bH (dV Z73.ah) Tryz.func194
end Z80
namespace Z81
inductive Pt where
 | p0 (a:Int) (b:bT)
def cZ:Pt->List V
 | .p0 a b=>[.bK 0 0,.int .i64 a]
def eD:Pt->List aK
 | .p0 a b=>[.box [.sl none 139 b.bE,.int .i64 b.ij]]
def step (J:Pt->aD):Pt->aD
 | .p0 a b=>(cond (a<(b.bE.length:Int)) (m2 a (b.bE.length:Int) (call (Z63.R (bS.at b.bE (toNat a))) fun v1=>(cond (!v1) aS (J (.p0 (i64.wrap (a+1)) b))))) (cond ((b.bE.length:Int)<=8) (call (Z11.R (b.ij,0,4)) fun v2=>ret (v2:Bool)) aS))
def start (J:Pt->aD)(x0:bT):aD:=J (.p0 0 x0)
def live:Nat->Live:=iD [(2,mN [1,3])]
def md (a0:aF):Bool:=(eI (S:=Unit) (β:=Bool) (fun (y1:aN) (s3:Unit)=>(cond (!(Z63.md y1)) (.inr (false:Bool)) (.inl ()))) (fun (s3:Unit)=>(cond ((a0.bE.length:Int)<=8) ((Z11.md a0.ij 0 4):Bool) (false:Bool))) a0.bE ())
def gd (a0:aF):Prop:=(aF.Sm (2^21) a0)
def R:=RR gd md
def aq {a0}(h:gd a0):R (aF.r a0)=some (md a0):=dX h
def aV:=CN [.agg Aw] oB RT.dec R
def bH (a0)(hg:gd a0):∃n,start (iter step n) (aF.r a0)=ret (md a0):=by
 unfold gd at hg
 have H0:=hg
 unfold start md
 try simp only [SS]
 have Bh2:a0.bE.length<=maxLen:=(by
   have:=(H0).1
   try simp only [maxLen] at *
   omega)
 refine ex_eq (out:=ret) (eo (z:=aN.zero)) ?_
 refine dW (p:=Pt.p0 0 (aF.r a0)) fz ?_
 refine bV (pt:=fun (i1:Nat) (s3:Unit)=>Pt.p0 (i1:Int) (aF.r a0)) (s:=(():Unit)) (out:=ret) (fun _ _=>True) (fun J i1 s3 h2 hih2=>?_) (fun s3 hih2=>?_) trivial
 ·simp only [step,SS]
  have bb_:=Bh2
  simp only [maxLen] at bb_
  have:=(H0).1
  refine bf.yes (by apply decide_eq_true;omega) ?_
  refine bf.yes bA ?_
  refine bf.yes (bU h2) ?_
  refine cr (Z63.aq (bn.getD (z:=aN.zero) H0 h2)) ?_
  refine bf.bif (fun _=>bf.inr rfl) (fun c4=>?_)
  refine bf.inl trivial ?_
  rw [aR h2 Bh2]
  all_goals exact fz
 ·simp only [step,SS]
  have:=(H0).1
  refine dQ (by apply decide_eq_false;omega) ?_
  refine iG ret (fun c5=>?_) (fun _=>⟨0,rfl⟩)
  refine cx (Z11.aq trivial) ?_
  refine ⟨0,?_⟩
  all_goals exact fz
def ah:cY 195 aV:=L1 27 (fun _=>2) cZ eD live step start mix aJ bH (gH Z63.ah Z11.ah) Tryz.func195
end Z81
namespace Z82
inductive Pt where
 | p0 (a b:Int) (c:bT)
def cZ:Pt->List V
 | .p0 a b c=>[.int .i64 a,.bK 0 0,.int .i64 b]
def eD:Pt->List aK
 | .p0 a b c=>[.box [.sl none 139 c.bE,.int .i64 c.ij]]
def step (J:Pt->aD):Pt->aD
 | .p0 a b c=>(cond (b<(c.bE.length:Int)) (m2 b (c.bE.length:Int) (call (Z64.R (bS.at c.bE (toNat b))) fun v1=>(cond (v1==a) (cond (a>=0) (ret (b:Int)) (J (.p0 a (i64.wrap (b+1)) c))) (J (.p0 a (i64.wrap (b+1)) c))))) sP)
def start (J:Pt->aD)(x0:bT)(x1:Int):aD:=J (.p0 x1 0 x0)
def live:Nat->Live:=iD [(2,mN [1,2,5])]
def md (a0:aF)(a1:Int):Int:=(eP (S:=Unit) (β:=Int) (fun (i1:Nat) (y1:aN) (s3:Unit)=>(cond ((Z64.md y1)==a1) (cond (a1>=0) (.inr ((i1:Int):Int)) (.inl ())) (.inl ()))) (fun (s3:Unit)=>((-1):Int)) 0 a0.bE ())
def gd (a0:aF)(a1:Int):Prop:=(aF.Sm (2^21) a0)
def R:=eA gd md
def aq {a0 a1}(h:gd a0 a1):R ((aF.r a0),a1)=some (md a0 a1):=eB h
def aV:=CN [.agg Aw,pI] oI RT.dec R
def bH (a0)(a1)(hg:gd a0 a1):∃n,start (iter step n) (aF.r a0) a1=ret (md a0 a1):=by
 unfold gd at hg
 have H0:=hg
 unfold start md
 try simp only [SS]
 have Bh2:a0.bE.length<=maxLen:=(by
   have:=(H0).1
   try simp only [maxLen] at *
   omega)
 refine ex_eq (out:=ret) (dD (z:=aN.zero)) ?_
 refine dW (p:=Pt.p0 a1 0 (aF.r a0)) fz ?_
 refine bV (pt:=fun (i1:Nat) (s3:Unit)=>Pt.p0 a1 (i1:Int) (aF.r a0)) (s:=(():Unit)) (out:=ret) (fun _ _=>True) (fun J i1 s3 h2 hih2=>?_) (fun s3 hih2=>?_) trivial
 ·simp only [step,SS]
  have bb_:=Bh2
  simp only [maxLen] at bb_
  have:=(H0).1
  refine bf.yes (by apply decide_eq_true;omega) ?_
  refine bf.yes bA ?_
  refine bf.yes (bU h2) ?_
  refine cr (Z64.aq (bn.getD (z:=aN.zero) H0 h2)) ?_
  refine bf.bif (fun c4=>?_) (fun c4=>?_)
  ·refine bf.bif (fun c5=>?_) (fun c5=>?_)
   ·refine bf.inr ?_
    all_goals exact fz
   ·refine bf.inl trivial ?_
    rw [aR h2 Bh2]
    all_goals exact fz
  ·refine bf.inl trivial ?_
   rw [aR h2 Bh2]
   all_goals exact fz
 ·simp only [step,SS]
  have:=(H0).1
  refine dQ (by apply decide_eq_false;omega) ?_
  refine ⟨0,?_⟩
  all_goals exact fz
def ah:cY 196 aV:=L2 26 (fun _=>2) cZ eD live step start mix aJ bH (dV Z64.ah) Tryz.func196
def fa (a0:aF)(a1:Int):-1<=md a0 a1/\md a0 a1<(a0.bE.length:Int):=by
 unfold md
 refine iU ?_ _ _
 all_goals
  intro i x s b h
  revert h
  simp only [Bool.cond_eq_ite]
  repeat' split
  all_goals (intro h;first | (cases h;rfl) | cases h)
end Z82
namespace Z83
def F (x0:bT)(x1:bS):aD:=(call (Z80.R x0) fun v1=>(call (Z81.R x0) fun v2=>(cond (!v2) (ret ((v1,false):bT×Bool)) (call (Z63.R x1) fun v3=>(cond (!v3) (ret ((v1,false):bT×Bool)) (call (Z64.R x1) fun v4=>(call (Z82.R (x0,v4)) fun v5=>(cond (v5>=0) (call (Z73.R x1) fun v6=>(m2 v5 (v1.bE.length:Int) (ret (((⟨(List.set v1.bE (toNat v5) (bS.enc v6)),v1.ij⟩:bT),true):bT×Bool)))) (cond ((x0.bE.length:Int)>=8) (ret ((v1,false):bT×Bool)) (call (Z73.R x1) fun v7=>(cX (fu (((v1.bE.length:Int)+1)*48)) (ret (((⟨(v1.bE++[(bS.enc v7)]),v1.ij⟩:bT),true):bT×Bool)))))))))))))
def md (a0:aF)(a1:aN):aF×Bool:=(cond (!(Z81.md a0)) (a0,false) (cond (!(Z63.md a1)) (a0,false) (cond ((Z82.md a0 (Z64.md a1))>=0) ((⟨(List.set a0.bE (toNat (Z82.md a0 (Z64.md a1))) a1),a0.ij⟩:aF),true) (cond ((a0.bE.length:Int)>=8) (a0,false) ((⟨(a0.bE++[a1]),a0.ij⟩:aF),true)))))
def gd (a0:aF)(a1:aN):Prop:=(aF.Sm (2^21) a0)/\(aN.Sm (2^21) a1)
def R:=eA gd md
def aq {a0 a1}(h:gd a0 a1):R ((aF.r a0),(aN.r a1))=some ((aF.r (md a0 a1).1),(md a0 a1).2):=eB h
def aV:=CN [.agg Aw,.agg xd] (.gK [(true,f177),(false,[fB])]) RT.dec R
def bH (a0)(a1)(hg:gd a0 a1):F (aF.r a0) (aN.r a1)=ret ((aF.r (md a0 a1).1),(md a0 a1).2):=by
 obtain ⟨H0,H1⟩:=hg
 unfold F md
 try simp only [SS]
 refine ct (Z80.aq H0) ?_
 try simp only [SS]
 refine ct (Z81.aq H0) ?_
 refine au (fun b:aF×Bool=>ret (((aF.r b.1),b.2):bT×Bool)) (fun c1=>?_) (fun c1=>?_)
 ·all_goals exact fz
 ·have dc1:=c1
  try simp only [DC] at dc1
  refine ct (Z63.aq H1) ?_
  refine au (fun b:aF×Bool=>ret (((aF.r b.1),b.2):bT×Bool)) (fun c2=>?_) (fun c2=>?_)
  ·all_goals exact fz
  ·have dc2:=c2
   try simp only [DC] at dc2
   refine ct (Z64.aq H1) ?_
   refine ct (Z82.aq H0) ?_
   have fv5_:=Z82.fa a0 (Z64.md a1)
   refine au (fun b:aF×Bool=>ret (((aF.r b.1),b.2):bT×Bool)) (fun c3=>?_) (fun c3=>?_)
   ·have dc3:=c3
    try simp only [DC] at dc3
    refine ct (Z73.aq H1) ?_
    try simp only [SS]
    refine aW dt ?_
    refine aW (have:=(H0).1;dt) ?_
    all_goals exact fz
   ·have dc3:=c3
    try simp only [DC] at dc3
    refine au (fun b:aF×Bool=>ret (((aF.r b.1),b.2):bT×Bool)) (fun c4=>?_) (fun c4=>?_)
    ·all_goals exact fz
    ·have dc4:=c4
     try simp only [DC] at dc4
     refine ct (Z73.aq H1) ?_
     try simp only [SS]
     refine aW (have:=(H0).1;lm) ?_
     all_goals exact fz
def ah:cY 152 aV:=W2 45 F mix aJ bH (vN Z80.ah Z81.ah Z63.ah Z64.ah Z82.ah Z73.ah) Tryz.func152
def BA {k:Nat}{a0:aF}{a1:aN}(hk:8<=k)(h:aF.Sm k a0)(h1:aN.Sm k a1):aF.Sm k (md a0 a1).1:=by
 have hm:∀x∈a0.bE,aN.Sm k x:=h.2
 unfold md
 simp only [Bool.cond_eq_ite]
 repeat' split
 all_goals first | exact h | skip
 ·exact ⟨by simpa using h.1,fun x hx=>(List.mem_or_eq_of_mem_set hx).elim (hm x) (fun e=>e ▸ h1)⟩
 ·rename_i h4
  have h4:¬((a0.bE.length:Int)>=8):=by simpa using h4
  exact ⟨by simp;omega,fun x hx=>(List.mem_append.1 hx).elim (hm x) (fun e=>by simp at e;subst e;exact h1)⟩
end Z83
namespace Z84
def F (x0:an)(x1 x2:Int)(x3:an):aD:=(call (Z4.R (x0,x1,x2,(x3.length:Int))) fun v1=>(cX ((0:Int)<=v1.2.2.2) (cX (v1.2.2.2<(x3.length:Int)) (ret ((Hl.mk,v1.2.1,v1.2.2.1,(iE x3 (toNat v1.2.2.2))):Hl×Int×Int×Int)))))
abbrev cG:List K:=[.sl 5,aQ,aQ]
def pats:List (Option fH):=[none,some (.rd (.sl 3))]
def res:RP:=.one (.rd (.int .i64))
abbrev E:Env:={ T:=assoc mD,G:=cN [],nt:=12,M:=eL [],np:=(nC cG),mt:=false,I:=fV [(52,Z4.ic (nC cG))] }
def run_eq (n:Nat)(ls:List L):eS E (fun _=>[]) Tryz.f53 (.cur cG res.parts) n (gr cG pats ls)=F (fc ls) (cA 1 ls) (cA 2 ls) (gS 3 ls):=by kernel_rfl
def gd (x0:an)(x1 x2:Int)(x3:an):Prop:=CI x0 x1/\0<x3.length
def post (x0:an)(x1 x2:Int)(x3:an)(y:Hl×Int×Int×Int):Prop:=CI x0 y.2.1/\∃i,i<x3.length/\y.2.2.2=iE x3 i
def wp (x0:an)(x1 x2:Int)(x3:an)(hg:gd x0 x1 x2 x3):Wp (F x0 x1 x2 x3) (post x0 x1 x2 x3):=by
 unfold F
 refine Z4.cF hg.1 (fun v ⟨hv,_,h⟩=>?_)
 obtain ⟨h1,h2⟩:=h (by have:=hg.2;omega)
 exact eX (decide_eq_true h1) (eX (decide_eq_true h2) (wp_ret ⟨hv,_,by omega,rfl⟩))
def R:(an×Int×Int×an)->Option (Hl×Int×Int×Int):=RQ (fun _ x=>F x.1 x.2.1 x.2.2.1 x.2.2.2) (fun x=>post x.1 x.2.1 x.2.2.1 x.2.2.2)
def cF {x0:an}{x1 x2:Int}{x3:an}{γ:Type}[RT γ]{k:(Hl×Int×Int×Int)->aD}{Q:γ->Prop}(hg:gd x0 x1 x2 x3)(hk:∀y,post x0 x1 x2 x3 y->Wp (k y) Q):Wp (call (R (x0,x1,x2,x3)) k) Q:=dY ⟨0,wp x0 x1 x2 x3 hg⟩ hk
def acc (ls:List L):an×Int×Int×an:=((fc ls),(cA 1 ls),(cA 2 ls),(gS 3 ls))
def aV:iL:=CC cG pats res acc R
def ah:fG Tryz.prog Ev 53 aV:=VC (live:=(fun _=>[])) (mt:=false) mix aJ .nil .nil (.cons (Z4.bq (nC cG)) .nil) Tryz.func53 (by kernel_rfl) run_eq
def ic (_:Nat):fU:=iQ Ev aV
def bq (n:Nat):dh Tryz.prog Ev n 53 (ic n):=dF ah
end Z84
namespace Z85
inductive Pt where
 | p0 (a:an) (b c d:Int) (e f:an)
 | p1 (a:an) (b:Int) (c:an) (d e f g:Int) (h i:an) (j:Int) (k:an)
def pid:Pt->Nat
 | .p0 ..=>3
 | .p1 ..=>7
def cZ:Pt->List V
 | .p0 a b c d e f=>[.bK 0 0,.sl none 139 a,.own 2,.int .i64 b]
 | .p1 a b c d e f g h i j k=>[.bK 0 0,.sl none 139 a,.own 2,.int .i64 b,.bK 3 0,.sl none 139 c,.int .i64 d,.int .i64 e,.bK 3 0]
def eD:Pt->List aK
 | .p0 a b c d e f=>[.box [.own 1,.int .i64 c,.int .i64 d],.vw 5 e,.row 177 f]
 | .p1 a b c d e f g h i j k=>[.box [.own 1,.int .i64 f,.int .i64 g],.vw 5 h,.row 177 i,.box [.own 4,.int .i64 j],.row 139 k]
def step (J:Pt->aD):Pt->aD
 | .p0 a b c d e f=>(cond (b>0) (J (.p1 a b a (a.length:Int) 0 c d e f 0 [])) (ret ((Hl.mk,c,d,f):Hl×Int×Int×an)))
 | .p1 a b c d e f g h i j k=>(cond (e<d) (m2 e (c.length:Int) (call (Z67.R (h,f,g,8)) fun v1=>(cond v1.2.2.2 (call (Z79.R (h,v1.2.1,v1.2.2.1,(bS.at c (toNat e)))) fun v2=>(call (Z67.R (h,v2.2.1,v2.2.2.1,8)) fun v3=>(cond (!v3.2.2.2) (call (Z83.R ((⟨k,j⟩:bT),v2.2.2.2)) fun v4=>J (.p1 a b c d (i64.wrap (e+1)) v3.2.1 v3.2.2.1 h i v4.1.ij v4.1.bE)) (J (.p1 a b c d (i64.wrap (e+1)) v3.2.1 v3.2.2.1 h i j k))))) (call (Z67.R (h,v1.2.1,v1.2.2.1,8)) fun v5=>(cond (!v5.2.2.2) (call (Z83.R ((⟨k,j⟩:bT),(bS.at c (toNat e)))) fun v6=>J (.p1 a b c d (i64.wrap (e+1)) v5.2.1 v5.2.2.1 h i v6.1.ij v6.1.bE)) (J (.p1 a b c d (i64.wrap (e+1)) v5.2.1 v5.2.2.1 h i j k))))))) (call (Z84.R (h,f,g,[[L.int 0],[L.int 0],[L.int 0],[L.int 1],[L.int 2],[L.int 3],[L.int 4]])) fun v7=>(cX (fu (((i.length:Int)+1)*32)) (J (.p0 a (i64.wrap (b - 1)) v7.2.1 v7.2.2.1 h (i++[(bT.enc (⟨k,v7.2.2.2⟩:bT))]))))))
def start (J:Pt->aD)(x0:an)(x1 x2:Int)(x3:an):aD:=(call (Z4.R (x0,x1,x2,3)) fun v1=>J (.p0 x3 (i64.wrap (1+v1.2.2.2)) v1.2.1 v1.2.2.1 x0 []))
def live:Nat->Live:=iD [(3,[(0,none),(1,none),(5,some 177),(6,none)]),(7,[(0,none),(1,none),(5,some 177),(6,none),(7,none),(19,none),(20,none),(21,none),(7,some 139)])]
abbrev cG:List K:=[.sl 5,aQ,aQ]
def pats:List (Option fH):=[none,some (.rd (.sl 139))]
def res:RP:=.one (.fr 177)
abbrev E:Env:={ T:=assoc mD,G:=cN [(152,Z83.aV)],nt:=49,M:=eL [],np:=(nC cG),mt:=false,I:=fV [(52,Z4.ic (nC cG)),(76,Z67.ic (nC cG)),(151,Z79.ic (nC cG)),(53,Z84.ic (nC cG))] }
def step_eq (I:dK)(p:Pt):dP E live I (pid p) (bQ Tryz.f102) (jr (live (pid p)) (cZ p) (eD p)) (dG E Tryz.f102 (.cur cG res.parts))=step (fun q=>I (pid q) (cZ q) (eD q)) p:=by
 cases p<;>kernel_rfl
def start_eq (I:dK)(ls:List L):gU E live I (bQ Tryz.f102) (gr cG pats ls) (dG E Tryz.f102 (.cur cG res.parts))=start (fun q=>I (pid q) (cZ q) (eD q)) (fc ls) (cA 1 ls) (cA 2 ls) (gS 3 ls):=by kernel_rfl
def run_eq (n:Nat)(ls:List L):eS E live Tryz.f102 (.cur cG res.parts) n (gr cG pats ls)=start (iter step n) (fc ls) (cA 1 ls) (cA 2 ls) (gS 3 ls):=dM (id:=pid) (vs:=cZ) (hs:=eD) (step:=step) (start:=fun J=>start J (fc ls) (cA 1 ls) (cA 2 ls) (gS 3 ls)) step_eq (fun I=>start_eq I ls) n
def gd (x0:an)(x1 x2:Int)(x3:an):Prop:=CI x0 x1/\∃zs:List aN,x3=zs.map aN.row/\zs.length=3/\∀z∈zs,Z45.ok z
def post (x0:an)(x1 x2:Int)(x3:an)(y:Hl×Int×Int×an):Prop:=CI x0 y.2.1/\∃m:List aF,y.2.2.2=m.map aF.row/\bn 3 (fun z:aF=>aF.Sm 64 z) m
def wp (x0:an)(x1 x2:Int)(x3:an)(hg:gd x0 x1 x2 x3):∃n,Wp (start (iter step n) x0 x1 x2 x3) (post x0 x1 x2 x3):=by
 obtain ⟨hc,zs,rfl,h3,hz⟩:=hg
 have key:∀b c d,1<=b->b<=3->CI x0 c->∃n,Wp (iter step n (.p0 (zs.map aN.row) b c d x0 [])) (post x0 x1 x2 (zs.map aN.row)):=by
  intro b0 c0 d0 b1 b2 b3
  refine ⟨36,jD (fun p=>match p with
   | .p0 a b c d e f=>a=zs.map aN.row/\0<=b/\b<=3/\CI e c/\e=x0/\∃ms:List aF,f=ms.map aF.row/\(ms.length:Int)+b<=3/\∀s∈ms,aF.Sm 64 s
   | .p1 a b c d e f g h i j k=>a=zs.map aN.row/\1<=b/\b<=3/\c=zs.map aN.row/\d=3/\0<=e/\e<=3/\CI h f/\h=x0/\(∃ms:List aF,i=ms.map aF.row/\(ms.length:Int)+b<=3/\∀s∈ms,aF.Sm 64 s)/\∃s:aF,(⟨k,j⟩:bT)=aF.r s/\aF.Sm 64 s)
   (fun p=>match p with | .p0 a b c d e f=>(10*b+5).toNat | .p1 a b c d e f g h i j k=>(10*b+(3 - e)).toNat) (fun J p hI hJ=>?_) _ _ ⟨rfl,by omega,b2,b3,rfl,[],rfl,by show (0:Int)+b0<=3;omega,fun _ h=>(nomatch h)⟩ (by show (10*b0+5).toNat<36;omega)⟩
  cases p with
  | p0 a b c d e f=>
   obtain ⟨rfl,k1,k2,k3,rfl,ms,rfl,h6,h7⟩:=hI
   refine wp_cond (fun c1=>?_) (fun c1=>wp_ret ⟨k3,ms,rfl,by omega,h7⟩)
   have c1:=of_decide_eq_true c1
   refine hJ _ ⟨rfl,by omega,k2,rfl,by rw [List.length_map,h3];rfl,Int.le_refl _,by decide,k3,rfl,⟨ms,rfl,h6,h7⟩,⟨[],0⟩,rfl,zero_le _,fun _ h=>(nomatch h)⟩ ?_
   show (10*b+(3 - 0)).toNat<(10*b+5).toNat
   omega
  | p1 a b c d e f g h i j k=>
   obtain ⟨rfl,k1,k2,rfl,rfl,k4,k5,k6,rfl,⟨ms,rfl,h6,h7⟩,s,hs,h8⟩:=hI
   refine wp_cond (fun c1=>?_) (fun c1=>?_)
   ·have c1:=of_decide_eq_true c1
    have e1:i64.wrap (e+1)=e+1:=wi _ (by omega)
    have q0:0<=i64.wrap (e+1):=by omega
    have q3:i64.wrap (e+1)<=3:=by omega
    have km:(10*b+(3 - i64.wrap (e+1))).toNat<(10*b+(3 - e)).toNat:=by omega
    have hi:e.toNat<zs.length:=by omega
    have ho:=hz _ (List.getElem_mem hi)
    refine mS k4 (by rw [List.length_map];omega) ?_
    rw [aN.kP hi]
    have rest:∀(z:aN) (p q:Int),Z45.ok z->CI h p->Wp (call (Z67.R (h,p,q,8)) fun v3=>(cond (!v3.2.2.2) (call (Z83.R ((⟨k,j⟩:bT),aN.r z)) fun v4=>J (.p1 (zs.map aN.row) b (zs.map aN.row) 3 (i64.wrap (e+1)) v3.2.1 v3.2.2.1 h (ms.map aF.row) v4.1.ij v4.1.bE)) (J (.p1 (zs.map aN.row) b (zs.map aN.row) 3 (i64.wrap (e+1)) v3.2.1 v3.2.2.1 h (ms.map aF.row) j k)))) (post h x1 x2 (zs.map aN.row)):=by
     intro z p q hz hp
     refine Z67.cF hp (fun v3 d3=>wp_cond (fun _=>?_) (fun _=>hJ _ ⟨rfl,k1,k2,rfl,rfl,q0,q3,d3,rfl,⟨ms,rfl,h6,h7⟩,s,hs,h8⟩ km))
     rw [hs]
     refine bD (Z83.aq (a0:=s) (a1:=z) ⟨aF.bC (by decide) h8,aN.bC (by decide) (Z45.AP hz)⟩) (hJ _ ⟨rfl,k1,k2,rfl,rfl,q0,q3,d3,rfl,⟨ms,rfl,h6,h7⟩,(Z83.md s z).1,rfl,Z83.BA (by decide) h8 (Z45.AP hz)⟩ km)
    refine Z67.cF k6 (fun v1 d1=>wp_cond (fun _=>?_) (fun _=>rest _ _ _ ho d1))
    refine Z79.cF ⟨d1,_,rfl,ho⟩ (fun v2 ⟨d2,z2,ez,oz⟩=>?_)
    rw [ez]
    exact rest _ _ _ oz d2
   ·refine Z84.cF ⟨k6,by show 0<7;decide⟩ (fun v7 ⟨d7,_⟩=>eX (gq (by rw [List.length_map];omega)) ?_)
    have e1:i64.wrap (b - 1)=b - 1:=wi _ (by omega)
    have hk:k=s.bE.map aN.row:=congrArg bT.bE hs
    refine hJ _ ⟨rfl,by omega,by omega,d7,rfl,ms++[⟨s.bE,v7.2.2.2⟩],by rw [List.map_append,hk];rfl,by rw [e1];simp;omega,fun x hx=>?_⟩ ?_
    ·rcases List.mem_append.1 hx with h | h
     ·exact h7 x h
     ·rw [List.mem_singleton.1 h];exact h8
    ·show (10*i64.wrap (b - 1)+5).toNat<(10*b+(3 - e)).toNat
     omega
 obtain ⟨v,hv,pv⟩:=Z4.kO (x3:=3) hc
 obtain ⟨h1,h2⟩:=pv.2.2 (by decide)
 have e1:i64.wrap (1+v.2.2.2)=1+v.2.2.2:=wi _ (by omega)
 obtain ⟨n,hn⟩:=key (i64.wrap (1+v.2.2.2)) v.2.1 v.2.2.1 (by omega) (by omega) pv.1
 exact ⟨n,bD hv hn⟩
def R:(an×Int×Int×an)->Option (Hl×Int×Int×an):=RQ (fun n x=>start (iter step n) x.1 x.2.1 x.2.2.1 x.2.2.2) (fun x=>post x.1 x.2.1 x.2.2.1 x.2.2.2)
def cF {x0:an}{x1 x2:Int}{x3:an}{γ:Type}[RT γ]{k:(Hl×Int×Int×an)->aD}{Q:γ->Prop}(hg:gd x0 x1 x2 x3)(hk:∀y,post x0 x1 x2 x3 y->Wp (k y) Q):Wp (call (R (x0,x1,x2,x3)) k) Q:=dY (wp x0 x1 x2 x3 hg) hk
def acc (ls:List L):an×Int×Int×an:=((fc ls),(cA 1 ls),(cA 2 ls),(gS 3 ls))
def aV:iL:=CC cG pats res acc R
def ah:fG Tryz.prog Ev 102 aV:=VC (live:=live) (mt:=false) mix aJ (dV Z83.ah) .nil (.cons (Z4.bq (nC cG)) (.cons (Z67.bq (nC cG)) (.cons (Z79.bq (nC cG)) (.cons (Z84.bq (nC cG)) .nil)))) Tryz.func102 (by kernel_rfl) run_eq
def ic (_:Nat):fU:=iQ Ev aV
def bq (n:Nat):dh Tryz.prog Ev n 102 (ic n):=dF ah
end Z85
namespace Z86
def F (x0:dI):aD:=(call (Z71.R x0.bF) fun v1=>(call (Z71.R x0.fA) fun v2=>(call (Z71.R x0.fB) fun v3=>ret ((⟨v1,v2,v3⟩:dI):dI))))
def md (a0:bt):bt:=a0
def gd (a0:bt):Prop:=(bt.Sm (2^21) a0)
def R:=RR gd md
def aq {a0}(h:gd a0):R (bt.r a0)=some (bt.r a0):=dX h
def aV:=CN [.agg B1] (.agg f185) RT.dec R
def bH (a0)(hg:gd a0):F (bt.r a0)=ret (bt.r (md a0)):=by
 unfold gd at hg
 have H0:=hg
 unfold F md
 try simp only [SS]
 refine ct (Z71.aq H0.1) ?_
 try simp only [SS]
 refine ct (Z71.aq H0.2.1) ?_
 try simp only [SS]
 refine ct (Z71.aq H0.2.2) ?_
 try simp only [SS]
 all_goals exact fz
def ah:cY 157 aV:=W1 13 F mix aJ bH (dV Z71.ah) Tryz.func157
end Z86
namespace Z87
inductive Pt where
 | p0 (a:Int) (b:bP) (c:an)
 | p1 (a:Int) (b:bP) (c d:an)
def pid:Pt->Nat
 | .p0 ..=>3
 | .p1 ..=>7
def cZ:Pt->List V
 | .p0 a b c=>[.bK 0 0,.bK 1 0,.bK 2 0,.int .i64 a,.bK 2 0]
 | .p1 a b c d=>[.bK 0 0,.bK 1 0,.bK 2 0,.int .i64 a,.bK 2 0,.bK 2 0]
def eD:Pt->List aK
 | .p0 a b c=>[.box [.sl none 24 b.aZ,.sl none 185 b.bN],.box [.nil,.nil],.box [.own 3,.nil],.row 24 c]
 | .p1 a b c d=>[.box [.sl none 24 b.aZ,.sl none 185 b.bN],.box [.nil,.nil],.box [.own 3,.own 4],.row 24 c,.row 185 d]
def step (J:Pt->aD):Pt->aD
 | .p0 a b c=>(cond (a<(b.aZ.length:Int)) (m2 a (b.aZ.length:Int) (call (Z72.R (jT b.aZ (toNat a))) fun v1=>(cX (fu (((c.length:Int)+1)*24)) (J (.p0 (i64.wrap (a+1)) b (c++[[L.sl v1]])))))) (J (.p1 0 b c [])))
 | .p1 a b c d=>(cond (a<(b.bN.length:Int)) (m2 a (b.bN.length:Int) (call (Z86.R (dI.at b.bN (toNat a))) fun v1=>(cX (fu (((d.length:Int)+1)*600)) (J (.p1 (i64.wrap (a+1)) b c (d++[(dI.enc v1)])))))) (ret ((⟨c,d⟩:bP):bP)))
def start (J:Pt->aD)(x0:bP):aD:=J (.p0 0 x0 [])
def live:Nat->Live:=iD [(3,[(1,none),(2,none),(3,none),(4,none),(3,some 24)]),(7,[(1,none),(2,none),(3,none),(5,none),(3,some 24),(3,some 1048761)])]
def md (a0:az):az:=a0
def gd (a0:az):Prop:=(az.Sm (2^21) a0)
def R:=RR gd md
def aq {a0}(h:gd a0):R (az.r a0)=some (az.r a0):=dX h
def aV:=CN [.agg BU] (.agg f65) RT.dec R
def bH (a0)(hg:gd a0):∃n,start (iter step n) (az.r a0)=ret (az.r (md a0)):=by
 unfold gd at hg
 have H0:=hg
 unfold start md
 try simp only [SS]
 have Bh2:a0.aZ.length<=maxLen:=(by
   have:=(H0.1).1
   try simp only [maxLen] at *
   omega)
 refine ex_eq (out:=(fun b:az=>ret ((az.r b):bP))) (hU (xs:=a0.aZ) (z:=[]) (t:=fun s3:List (List af)=>(⟨s3,a0.bN⟩:az))) ?_
 refine dW (p:=Pt.p0 0 (az.r a0) ([].map (eG af.row))) fz ?_
 refine bV (pt:=fun (i1:Nat) (s3:List (List af))=>Pt.p0 (i1:Int) (az.r a0) (s3.map (eG af.row))) (s:=([]:List (List af))) (out:=(fun b:az=>ret ((az.r b):bP))) (fun (i1:Nat) (s3:List (List af))=>s3.length<=([]:List Int).length+1*i1) (fun J i1 s3 h2 hih2=>?_) (fun s3 hih2=>?_) (by simp)
 ·simp only [step,SS]
  have gr_:=hih2
  try simp only [LN] at gr_
  have bb_:=Bh2
  simp only [maxLen] at bb_
  have:=(H0.1).1
  refine bf.yes (by apply decide_eq_true;omega) ?_
  refine bf.yes bA ?_
  refine bf.yes (bU h2) ?_
  refine cr (Z72.aq (bn.getD (z:=[]) H0.1 h2)) ?_
  try simp only [SS]
  refine bf.yes lm ?_
  refine bf.inl (by
    have g_:=hih2
    try simp only [LN] at g_ ⊢
    first | omega | (simp;done) | (simp;omega)) ?_
  rw [aR h2 Bh2]
  all_goals exact fz
 ·simp only [step,SS]
  have gr_:=hih2
  try simp only [LN] at gr_
  have:=(H0.1).1
  refine dQ (by apply decide_eq_false;omega) ?_
  have Bh5:a0.bN.length<=maxLen:=(by
    have:=(H0.2).1
    try simp only [maxLen] at *
    omega)
  refine ex_eq (out:=(fun b:az=>ret ((az.r b):bP))) (hU (xs:=a0.bN) (z:=bt.zero) (t:=fun s6:List bt=>(⟨s3,s6⟩:az))) ?_
  refine dW (p:=Pt.p1 0 (az.r a0) (s3.map (eG af.row)) ([].map bt.row)) fz ?_
  refine bV (pt:=fun (i4:Nat) (s6:List bt)=>Pt.p1 (i4:Int) (az.r a0) (s3.map (eG af.row)) (s6.map bt.row)) (s:=([]:List bt)) (out:=(fun b:az=>ret ((az.r b):bP))) (fun (i4:Nat) (s6:List bt)=>s6.length<=([]:List Int).length+1*i4) (fun J i4 s6 h5 hih5=>?_) (fun s6 hih5=>?_) (by simp)
  ·simp only [step,SS]
   have gr_:=hih5
   try simp only [LN] at gr_
   have bb_:=Bh5
   simp only [maxLen] at bb_
   have:=(H0.2).1
   refine bf.yes (by apply decide_eq_true;omega) ?_
   refine bf.yes bA ?_
   refine bf.yes (bU h5) ?_
   refine cr (Z86.aq (bn.getD (z:=bt.zero) H0.2 h5)) ?_
   try simp only [SS]
   refine bf.yes lm ?_
   refine bf.inl (by
     have g_:=hih5
     try simp only [LN] at g_ ⊢
     first | omega | (simp;done) | (simp;omega)) ?_
   rw [aR h5 Bh5]
   all_goals exact fz
  ·simp only [step,SS]
   have gr_:=hih5
   try simp only [LN] at gr_
   have:=(H0.2).1
   refine dQ (by apply decide_eq_false;omega) ?_
   refine ⟨0,?_⟩
   all_goals exact fz
def ah:cY 106 aV:=L1 44 pid cZ eD live step start mix aJ bH (gH Z72.ah Z86.ah) Tryz.func106
end Z87
namespace Z88
inductive Pt where
 | p0 (a b:Int) (c:bP)
def cZ:Pt->List V
 | .p0 a b c=>[.int .i64 a,.bK 0 0,.int .i64 b]
def eD:Pt->List aK
 | .p0 a b c=>[.box [.sl none 24 c.aZ,.sl none 185 c.bN]]
def step (J:Pt->aD):Pt->aD
 | .p0 a b c=>(cond (b<(c.aZ.length:Int)) (m2 b (c.aZ.length:Int) (cond (((jT c.aZ (toNat b)).length:Int)>0) (m2 b (c.aZ.length:Int) (cX ((0:Int)<((jT c.aZ (toNat b)).length:Int)) (cond ((aY.at (jT c.aZ (toNat b)) 0).aG.bM==a) (ret (b:Int)) (J (.p0 a (i64.wrap (b+1)) c))))) (J (.p0 a (i64.wrap (b+1)) c)))) sP)
def start (J:Pt->aD)(x0:bP)(x1:Int):aD:=J (.p0 x1 0 x0)
def live:Nat->Live:=iD [(2,mN [1,2,5])]
def md (a0:az)(a1:Int):Int:=(eP (S:=Unit) (β:=Int) (fun (i1:Nat) (y1:List af) (s3:Unit)=>(cond ((y1.length:Int)>0) (cond (((y1.getD 0 af.zero).aG).bM==a1) (.inr ((i1:Int):Int)) (.inl ())) (.inl ()))) (fun (s3:Unit)=>((-1):Int)) 0 a0.aZ ())
def gd (a0:az)(a1:Int):Prop:=(az.Sm (2^21) a0)
def R:=eA gd md
def aq {a0 a1}(h:gd a0 a1):R ((az.r a0),a1)=some (md a0 a1):=eB h
def aV:=CN [.agg BU,pI] oI RT.dec R
def bH (a0)(a1)(hg:gd a0 a1):∃n,start (iter step n) (az.r a0) a1=ret (md a0 a1):=by
 unfold gd at hg
 have H0:=hg
 unfold start md
 try simp only [SS]
 have Bh2:a0.aZ.length<=maxLen:=(by
   have:=(H0.1).1
   try simp only [maxLen] at *
   omega)
 refine ex_eq (out:=ret) (dD (z:=[])) ?_
 refine dW (p:=Pt.p0 a1 0 (az.r a0)) fz ?_
 refine bV (pt:=fun (i1:Nat) (s3:Unit)=>Pt.p0 a1 (i1:Int) (az.r a0)) (s:=(():Unit)) (out:=ret) (fun _ _=>True) (fun J i1 s3 h2 hih2=>?_) (fun s3 hih2=>?_) trivial
 ·simp only [step,SS]
  have bb_:=Bh2
  simp only [maxLen] at bb_
  have:=(H0.1).1
  refine bf.yes (by apply decide_eq_true;omega) ?_
  refine bf.yes bA ?_
  refine bf.yes (bU h2) ?_
  refine bf.bif (fun c4=>?_) (fun c4=>?_)
  ·have dc4:=c4
   try simp only [DC] at dc4
   refine bf.yes bA ?_
   refine bf.yes (bU h2) ?_
   refine bf.yes (have:=((bn.getD (z:=[]) H0.1 h2)).1;dt) ?_
   refine bf.bif (fun c5=>?_) (fun c5=>?_)
   ·refine bf.inr ?_
    all_goals exact fz
   ·refine bf.inl trivial ?_
    rw [aR h2 Bh2]
    all_goals exact fz
  ·refine bf.inl trivial ?_
   rw [aR h2 Bh2]
   all_goals exact fz
 ·simp only [step,SS]
  have:=(H0.1).1
  refine dQ (by apply decide_eq_false;omega) ?_
  refine ⟨0,?_⟩
  all_goals exact fz
def ah:cY 155 aV:=L2 34 (fun _=>2) cZ eD live step start mix aJ bH .nil Tryz.func155
def fa (a0:az)(a1:Int):-1<=md a0 a1/\md a0 a1<(a0.aZ.length:Int):=by
 unfold md
 refine iU ?_ _ _
 all_goals
  intro i x s b h
  revert h
  simp only [Bool.cond_eq_ite]
  repeat' split
  all_goals (intro h;first | (cases h;rfl) | cases h)
end Z88
namespace Z89
def F (x0 x1:bz):aD:=(call (Z39.R x0) fun v1=>(call (Z39.R x1) fun v2=>(call (Z52.R (v1,v2)) fun v3=>(cond v3 (ret ((x0.bO==x1.bO):Bool)) aS))))
def md (a0 a1:ay):Bool:=(cond (Z52.md (Z39.md a0) (Z39.md a1)) ((a0.bO==a1.bO):Bool) (false:Bool))
def gd (a0 a1:ay):Prop:=(ay.Sm (2^21) a0)/\(ay.Sm (2^21) a1)
def R:=eA gd md
def aq {a0 a1}(h:gd a0 a1):R ((ay.r a0),(ay.r a1))=some (md a0 a1):=eB h
def aV:=CN [.agg sZ,.agg sZ] oB RT.dec R
def bH (a0)(a1)(hg:gd a0 a1):F (ay.r a0) (ay.r a1)=ret (md a0 a1):=by
 obtain ⟨H0,H1⟩:=hg
 unfold F md
 try simp only [SS]
 refine ct (Z39.aq H0) ?_
 try simp only [SS]
 refine ct (Z39.aq H1) ?_
 try simp only [SS]
 refine ct (Z52.aq ⟨⟨(have:=Z39.len a0;have:=(H0.1).1;have:=(H0.2.1).1;have:=(H0.2.2).1;om),fun _ _=>trivial⟩,⟨(have:=Z39.len a1;have:=(H1.1).1;have:=(H1.2.1).1;have:=(H1.2.2).1;om),fun _ _=>trivial⟩⟩) ?_
 refine au ret (fun c1=>?_) (fun _=>rfl)
 all_goals exact fz
def ah:cY 198 aV:=W2 17 F mix aJ bH (gH Z39.ah Z52.ah) Tryz.func198
def md_eq (a0 a1:ay):md a0 a1=pY a0 a1:=by
 unfold md
 simp only [Z52.md_eq,bool_beq]
 rw [Bool.eq_iff_iff]
 constructor
 ·intro h
  cases he:pY (Z39.md a0) (Z39.md a1)<;>rw [he] at h
  ·cases h
  ·exact fm.2 (Z39.inj (fm.1 he))
 ·intro h
  rw [fm] at h
  rw [h,sq,sq];rfl
end Z89
namespace Z90
inductive Pt where
 | p0 (a b:an) (c:Int)
def cZ:Pt->List V
 | .p0 a b c=>[.sl none 78 a,.sl none 78 b,.int .i64 c]
def step (J:Pt->aD):Pt->aD
 | .p0 a b c=>(cond (c<(a.length:Int)) (m2 c (a.length:Int) (m2 c (b.length:Int) (call (Z89.R ((aY.at a (toNat c)).aG,(aY.at b (toNat c)).aG)) fun v1=>(cond (!v1) aS (J (.p0 a b (i64.wrap (c+1)))))))) ff)
def start (J:Pt->aD)(x0 x1:an):aD:=(cond ((x0.length:Int)>(x1.length:Int)) aS (J (.p0 x0 x1 0)))
def live:Nat->Live:=iD [(4,mN [0,1,5])]
def md (a0 a1:List af):Bool:=(bif (decide ((a0.length:Int)>(a1.length:Int))) then (false:Bool) else (eW (S:=Unit) (β:=Bool) (fun (i2:Nat) (s4:Unit)=>(cond (!(Z89.md ((a0.getD i2 af.zero).aG) ((a1.getD i2 af.zero).aG))) (.inr (false:Bool)) (.inl ()))) (fun (s4:Unit)=>(true:Bool)) a0.length 0 ()))
def gd (a0 a1:List af):Prop:=(bn (2^21) (fun y:af=>af.Sm (2^21) y) a0)/\(bn (2^21) (fun y:af=>af.Sm (2^21) y) a1)
def R:=eA gd md
def aq {a0 a1}(h:gd a0 a1):R ((a0.map af.row),(a1.map af.row))=some (md a0 a1):=eB h
def aV:=CN [pL 78,pL 78] oB RT.dec R
def bH (a0)(a1)(hg:gd a0 a1):∃n,start (iter step n) (a0.map af.row) (a1.map af.row)=ret (md a0 a1):=by
 obtain ⟨H0,H1⟩:=hg
 unfold start md
 try simp only [SS]
 refine iG ret (fun _=>⟨0,rfl⟩) (fun c1=>?_)
 have dc1:=c1
 try simp only [DC] at dc1
 have Bh3:a0.length<=maxLen:=(by
   have:=(H0).1
   try simp only [maxLen] at *
   omega)
 refine dW (p:=Pt.p0 (a0.map af.row) (a1.map af.row) 0) fz ?_
 refine bV (pt:=fun (i2:Nat) (s4:Unit)=>Pt.p0 (a0.map af.row) (a1.map af.row) (i2:Int)) (s:=(():Unit)) (out:=ret) (fun _ _=>True) (fun J i2 s4 h3 hih3=>?_) (fun s4 hih3=>?_) trivial
 ·simp only [step,SS]
  have bb_:=Bh3
  simp only [maxLen] at bb_
  have:=(H0).1
  refine bf.yes (by apply decide_eq_true;omega) ?_
  refine bf.yes bA ?_
  refine bf.yes (bU h3) ?_
  refine bf.yes bA ?_
  refine bf.yes (have:=(H1).1;dt) ?_
  refine cr (Z89.aq ⟨(bn.getD (z:=af.zero) H0 h3).1,(bn.getD (z:=af.zero) H1 (by first | assumption | omega | (simp (disch:=omega) only [wi];omega) | (simp;omega))).1⟩) ?_
  refine bf.bif (fun _=>bf.inr rfl) (fun c5=>?_)
  refine bf.inl trivial ?_
  rw [aR h3 Bh3]
  all_goals exact fz
 ·simp only [step,SS]
  have:=(H0).1
  refine dQ (by apply decide_eq_false;omega) ?_
  refine ⟨0,?_⟩
  all_goals exact fz
def ah:cY 197 aV:=L2 29 (fun _=>4) cZ (fun _=>[]) live step start mix aJ bH (dV Z89.ah) Tryz.func197
end Z90
namespace Z91
def F (x0:bP)(x1:an):aD:=(call (Z60.R x1) fun v1=>(cond (!v1) (ret (6:Int)) (cX ((0:Int)<(x1.length:Int)) (call (Z88.R (x0,(aY.at x1 0).aG.bM)) fun v2=>(cond (v2<0) (ret (1:Int)) (m2 v2 (x0.aZ.length:Int) (call (Z90.R ((jT x0.aZ (toNat v2)),x1)) fun v3=>(m2 v2 (x0.aZ.length:Int) (call (Z90.R (x1,(jT x0.aZ (toNat v2)))) fun v4=>(cond v3 (cond v4 (ret (2:Int)) (cond v3 (ret (3:Int)) (cond v4 (ret (4:Int)) (ret (5:Int))))) (cond v3 (ret (3:Int)) (cond v4 (ret (4:Int)) (ret (5:Int))))))))))))))
def md (a0:az)(a1:List af):Int:=(cond (!(Z60.md a1)) (6:Int) (cond ((Z88.md a0 (((a1.getD 0 af.zero).aG).bM))<0) (1:Int) (cond (Z90.md (a0.aZ.getD (toNat (Z88.md a0 (((a1.getD 0 af.zero).aG).bM))) []) a1) (cond (Z90.md a1 (a0.aZ.getD (toNat (Z88.md a0 (((a1.getD 0 af.zero).aG).bM))) [])) (2:Int) (cond (Z90.md (a0.aZ.getD (toNat (Z88.md a0 (((a1.getD 0 af.zero).aG).bM))) []) a1) (3:Int) (cond (Z90.md a1 (a0.aZ.getD (toNat (Z88.md a0 (((a1.getD 0 af.zero).aG).bM))) [])) (4:Int) (5:Int)))) (cond (Z90.md (a0.aZ.getD (toNat (Z88.md a0 (((a1.getD 0 af.zero).aG).bM))) []) a1) (3:Int) (cond (Z90.md a1 (a0.aZ.getD (toNat (Z88.md a0 (((a1.getD 0 af.zero).aG).bM))) [])) (4:Int) (5:Int))))))
def gd (a0:az)(a1:List af):Prop:=(az.Sm (2^21) a0)/\(bn (2^21) (fun y:af=>af.Sm (2^21) y) a1)
def R:=eA gd md
def aq {a0 a1}(h:gd a0 a1):R ((az.r a0),(a1.map af.row))=some (md a0 a1):=eB h
def aV:=CN [.agg BU,pL 78] oI RT.dec R
def bH (a0)(a1)(hg:gd a0 a1):F (az.r a0) (a1.map af.row)=ret (md a0 a1):=by
 obtain ⟨H0,H1⟩:=hg
 unfold F md
 try simp only [SS]
 refine ct (Z60.aq H1) ?_
 refine au ret (fun _=>rfl) (fun c1=>?_)
 have dc1:=c1
 try simp only [DC] at dc1
 try have tc1:=Z60.tr (by simpa using c1)
 refine aW (have:=(H1).1;dt) ?_
 refine ct (Z88.aq H0) ?_
 have fv2_:=Z88.fa a0 (((a1.getD 0 af.zero).aG).bM)
 refine au ret (fun _=>rfl) (fun c2=>?_)
 have dc2:=c2
 try simp only [DC] at dc2
 refine aW dt ?_
 refine aW (have:=(H0.1).1;dt) ?_
 refine ct (Z90.aq ⟨(bn.getD (z:=[]) H0.1 (by first | assumption | omega | (simp (disch:=omega) only [wi];omega) | (simp;omega))),H1⟩) ?_
 refine aW dt ?_
 refine aW (have:=(H0.1).1;dt) ?_
 refine ct (Z90.aq ⟨H1,(bn.getD (z:=[]) H0.1 (by first | assumption | omega | (simp (disch:=omega) only [wi];omega) | (simp;omega)))⟩) ?_
 refine au ret (fun c3=>?_) (fun c3=>?_)
 ·refine au ret (fun _=>rfl) (fun c4=>?_)
  refine au ret (fun _=>rfl) (fun c5=>?_)
  refine au ret (fun _=>rfl) (fun _=>rfl)
 ·refine au ret (fun _=>rfl) (fun c7=>?_)
  refine au ret (fun _=>rfl) (fun _=>rfl)
def ah:cY 153 aV:=W2 43 F mix aJ bH (nD Z60.ah Z88.ah Z90.ah) Tryz.func153
def fa (a0:az)(a1:List af):(md a0 a1=3->1<=a1.length/\0<=Z88.md a0 (a1.getD 0 af.zero).aG.bM)/\(md a0 a1=5->1<=a1.length/\0<=Z88.md a0 (a1.getD 0 af.zero).aG.bM):=by
 unfold md
 cases h:Z60.md a1
 ·exact ⟨fun h=>by simp at h,fun h=>by simp at h⟩
 ·have t:=Z60.tr h
  cases hf:decide (Z88.md a0 ((a1.getD 0 af.zero).aG.bM)<0)
  ·have:=of_decide_eq_false hf
   exact ⟨fun _=>⟨t.1,by omega⟩,fun _=>⟨t.1,by omega⟩⟩
  ·exact ⟨fun h=>by simp at h,fun h=>by simp at h⟩
end Z91
end Go.DM
end
