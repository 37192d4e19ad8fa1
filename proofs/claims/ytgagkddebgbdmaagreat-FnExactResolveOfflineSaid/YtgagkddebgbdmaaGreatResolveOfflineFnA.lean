/- What the functions compute that the law reaches, and that the law returns true. Conditions: none. -/
import Derived.Test.YtgagkddebgbdmaaGreatResolveOfflineTy
import Derived.Test.YtgagkddebgbdmaaGreatProg
import Derived.Lib.AppendZerosOnto
import Derived.Lib.Bytealg
import Derived.Laws.Externs
import Derived.Lib.Walk
import Derived.Lib.Hide
import Derived.Lib.Strings
set_option linter.all false
set_option maxRecDepth 100000
noncomputable section
namespace Go.DM
open Go.Proofs
open Go.IntKind (i64)
open Int (toNat)
open Nat (le_trans zero_le)
abbrev au:=K.int .i64
abbrev bT:=ret (false:Bool)
abbrev gf:=ret (true:Bool)
abbrev eY (b:Int):Bool:=Nat.beq (toNat b) (toNat b)&&true
def gA (l:List Nat):Live:=l.map fun i=>(i,none)
def fL:List (Nat×Live)->Nat->Live
 | [],_=>[]
 | (k,v)::r,i=>cond (Nat.beq k i) v (fL r i)
section
variable {P:Program} {E:Env} {f1:Nat} {c1:fY} {f2:Nat} {c2:fY} {f3:Nat} {c3:fY} {f4:Nat} {c4:fY} {f5:Nat} {c5:fY} {f6:Nat} {c6:fY} {f7:Nat} {c7:fY} {f8:Nat} {c8:fY} {f9:Nat} {c9:fY} {f10:Nat} {c10:fY}
theorem cJ (h1:Valid P E f1 c1):fM P E [(f1,c1)]:=.cons h1 .nil
theorem eM (h1:Valid P E f1 c1)(h2:Valid P E f2 c2):fM P E [(f1,c1),(f2,c2)]:=.cons h1 (cJ h2)
theorem jS (h1:Valid P E f1 c1)(h2:Valid P E f2 c2)(h3:Valid P E f3 c3):fM P E [(f1,c1),(f2,c2),(f3,c3)]:=.cons h1 (eM h2 h3)
theorem kP (h1:Valid P E f1 c1)(h2:Valid P E f2 c2)(h3:Valid P E f3 c3)(h4:Valid P E f4 c4):fM P E [(f1,c1),(f2,c2),(f3,c3),(f4,c4)]:=.cons h1 (jS h2 h3 h4)
theorem xF (h1:Valid P E f1 c1)(h2:Valid P E f2 c2)(h3:Valid P E f3 c3)(h4:Valid P E f4 c4)(h5:Valid P E f5 c5):fM P E [(f1,c1),(f2,c2),(f3,c3),(f4,c4),(f5,c5)]:=.cons h1 (kP h2 h3 h4 h5)
theorem zE (h1:Valid P E f1 c1)(h2:Valid P E f2 c2)(h3:Valid P E f3 c3)(h4:Valid P E f4 c4)(h5:Valid P E f5 c5)(h6:Valid P E f6 c6):fM P E [(f1,c1),(f2,c2),(f3,c3),(f4,c4),(f5,c5),(f6,c6)]:=.cons h1 (xF h2 h3 h4 h5 h6)
theorem zj (h1:Valid P E f1 c1)(h2:Valid P E f2 c2)(h3:Valid P E f3 c3)(h4:Valid P E f4 c4)(h5:Valid P E f5 c5)(h6:Valid P E f6 c6)(h7:Valid P E f7 c7):fM P E [(f1,c1),(f2,c2),(f3,c3),(f4,c4),(f5,c5),(f6,c6),(f7,c7)]:=.cons h1 (zE h2 h3 h4 h5 h6 h7)
theorem Db (h1:Valid P E f1 c1)(h2:Valid P E f2 c2)(h3:Valid P E f3 c3)(h4:Valid P E f4 c4)(h5:Valid P E f5 c5)(h6:Valid P E f6 c6)(h7:Valid P E f7 c7)(h8:Valid P E f8 c8):fM P E [(f1,c1),(f2,c2),(f3,c3),(f4,c4),(f5,c5),(f6,c6),(f7,c7),(f8,c8)]:=.cons h1 (zj h2 h3 h4 h5 h6 h7 h8)
theorem CY (h1:Valid P E f1 c1)(h2:Valid P E f2 c2)(h3:Valid P E f3 c3)(h4:Valid P E f4 c4)(h5:Valid P E f5 c5)(h6:Valid P E f6 c6)(h7:Valid P E f7 c7)(h8:Valid P E f8 c8)(h9:Valid P E f9 c9):fM P E [(f1,c1),(f2,c2),(f3,c3),(f4,c4),(f5,c5),(f6,c6),(f7,c7),(f8,c8),(f9,c9)]:=.cons h1 (Db h2 h3 h4 h5 h6 h7 h8 h9)
theorem CC (h1:Valid P E f1 c1)(h2:Valid P E f2 c2)(h3:Valid P E f3 c3)(h4:Valid P E f4 c4)(h5:Valid P E f5 c5)(h6:Valid P E f6 c6)(h7:Valid P E f7 c7)(h8:Valid P E f8 c8)(h9:Valid P E f9 c9)(h10:Valid P E f10 c10):fM P E [(f1,c1),(f2,c2),(f3,c3),(f4,c4),(f5,c5),(f6,c6),(f7,c7),(f8,c8),(f9,c9),(f10,c10)]:=.cons h1 (CY h2 h3 h4 h5 h6 h7 h8 h9 h10)
end
def cT {A A' Z Z':Type}[Im A A'][Im Z Z']{g:A->Prop}{m:A->Z}{a:A}(h:g a):RR (g) (m) (Im.im a)=some (Im.im (m a):Z'):=tv (a:=(a)) h
def cB {A B A' B' Z Z':Type}[Im A A'][Im B B'][Im Z Z']{g:A->B->Prop}{m:A->B->Z}{a:A}{b:B}(h:g a b):RR (p2 g) (u2 m) ((Im.im a:A'),(Im.im b:B'))=some (Im.im (m a b):Z'):=tv (a:=(a,b)) h
def kN {A B C A' B' C' Z Z':Type}[Im A A'][Im B B'][Im C C'][Im Z Z']{g:A->B->C->Prop}{m:A->B->C->Z}{a:A}{b:B}{c:C}(h:g a b c):RR (p3 g) (u3 m) ((Im.im a:A'),(Im.im b:B'),(Im.im c:C'))=some (Im.im (m a b c):Z'):=tv (a:=(a,b,c)) h
def wg {A B C D A' B' C' D' Z Z':Type}[Im A A'][Im B B'][Im C C'][Im D D'][Im Z Z']{g:A->B->C->D->Prop}{m:A->B->C->D->Z}{a:A}{b:B}{c:C}{d:D}(h:g a b c d):RR (p4 g) (u4 m) ((Im.im a:A'),(Im.im b:B'),(Im.im c:C'),(Im.im d:D'))=some (Im.im (m a b c d):Z'):=tv (a:=(a,b,c,d)) h
def wz {A B C D E A' B' C' D' E' Z Z':Type}[Im A A'][Im B B'][Im C C'][Im D D'][Im E E'][Im Z Z']{g:A->B->C->D->E->Prop}{m:A->B->C->D->E->Z}{a:A}{b:B}{c:C}{d:D}{e:E}(h:g a b c d e):RR (p5 g) (u5 m) ((Im.im a:A'),(Im.im b:B'),(Im.im c:C'),(Im.im d:D'),(Im.im e:E'))=some (Im.im (m a b c d e):Z'):=tv (a:=(a,b,c,d,e)) h
def AL {A B C D E F A' B' C' D' E' F' Z Z':Type}[Im A A'][Im B B'][Im C C'][Im D D'][Im E E'][Im F F'][Im Z Z']{g:A->B->C->D->E->F->Prop}{m:A->B->C->D->E->F->Z}{a:A}{b:B}{c:C}{d:D}{e:E}{f:F}(h:g a b c d e f):RR (p6 g) (u6 m) ((Im.im a:A'),(Im.im b:B'),(Im.im c:C'),(Im.im d:D'),(Im.im e:E'),(Im.im f:F'))=some (Im.im (m a b c d e f):Z'):=tv (a:=(a,b,c,d,e,f)) h
abbrev k7:List K:=[au,au,.bool,.int .u8]
abbrev f7:List Lf:=[fI,fI,fB,.rd (.int .u8)]
abbrev k8:List K:=[au,au,.bool,.int .u8]
abbrev f8:List Lf:=[fI,fI,fB,.rd (.int .u8)]
abbrev sR:List K:=[.str,.int .u64]
abbrev f13:List Lf:=[fS,.rd (.int .u64)]
abbrev sU:List K:=[.str,.int .u64]
abbrev f14:List Lf:=[fS,.rd (.int .u64)]
abbrev DH:List K:=[.sl 152,.sl 162]
abbrev f24:List Lf:=[.fr 152,.fr 162]
abbrev CW:List K:=[.sl 152,.sl 162]
abbrev f25:List Lf:=[.fr 152,.fr 162]
abbrev DI:List K:=[.sl 171]
abbrev f27:List Lf:=[.fr 171]
abbrev C1:List K:=[.sl 171]
abbrev f28:List Lf:=[.fr 171]
abbrev DG:List K:=[.sl 120,.sl 180]
abbrev f35:List Lf:=[.fr 120,.fr 180]
abbrev uY:List K:=[.sl 120,.sl 180]
abbrev f36:List Lf:=[.fr 120,.fr 180]
abbrev DK:List K:=[.str,au,au,.sl 9]
abbrev f37:List Lf:=[fS,fI,fI,.fr 9]
abbrev sX:List K:=[.str,au,au,.sl 9]
abbrev f38:List Lf:=[fS,fI,fI,.fr 9]
abbrev DB:List K:=[.sl 120,.sl 180,au,.str,au,au,.sl 9,.sl 3,au]
abbrev f40:List Lf:=[.fr 120,.fr 180,fI,fS,fI,fI,.fr 9,.fr 3,fI]
abbrev CQ:List K:=[.sl 120,.sl 180,au,.str,au,au,.sl 9,.sl 3,au]
abbrev f41:List Lf:=[.fr 120,.fr 180,fI,fS,fI,fI,.fr 9,.fr 3,fI]
abbrev DF:List K:=[.sl 148]
abbrev f45:List Lf:=[.fr 148]
abbrev xV:List K:=[.sl 148]
abbrev f46:List Lf:=[.fr 148]
abbrev DN:List K:=[.sl 120,.sl 180,au,.str,au,au,.sl 9,.sl 3,au,.sl 148]
abbrev f68:List Lf:=[.fr 120,.fr 180,fI,fS,fI,fI,.fr 9,.fr 3,fI,.fr 148]
abbrev DL:List K:=[.sl 120,.sl 180,au,.str,au,au,.sl 9,.sl 3,au,.sl 148]
abbrev f69:List Lf:=[.fr 120,.fr 180,fI,fS,fI,fI,.fr 9,.fr 3,fI,.fr 148]
abbrev DO:List K:=[.str,au]
abbrev f99:List Lf:=[fS,fI]
abbrev Dr:List K:=[.str,au]
abbrev f100:List Lf:=[fS,fI]
abbrev Da:List K:=[.str,au]
abbrev f101:List Lf:=[fS,fI]
abbrev Dt:List K:=[.sl 233,au]
abbrev f114:List Lf:=[.fr 233,fI]
abbrev CU:List K:=[.sl 233,au]
abbrev f115:List Lf:=[.fr 233,fI]
abbrev C7:List K:=[au,.sl 3]
abbrev f121:List Lf:=[fI,.fr 3]
abbrev oT:List K:=[au,.sl 3]
abbrev f122:List Lf:=[fI,.fr 3]
abbrev Dj:List K:=[au,.str,au,au,.sl 9,.str,au,au,.sl 9,au,.sl 3,au,.sl 3]
abbrev f123:List Lf:=[fI,fS,fI,fI,.fr 9,fS,fI,fI,.fr 9,fI,.fr 3,fI,.fr 3]
abbrev rP:List K:=[au,.str,au,au,.sl 9,.str,au,au,.sl 9,au,.sl 3,au,.sl 3]
abbrev f124:List Lf:=[fI,fS,fI,fI,.fr 9,fS,fI,fI,.fr 9,fI,.fr 3,fI,.fr 3]
abbrev CV:List K:=[.sl 178,.bool,.str,au,au,.sl 9,au,.sl 3,au,.str,au,au,.sl 9,.str,au,au,.sl 9,au,.sl 3,au,.sl 3]
abbrev f125:List Lf:=[.fr 178,fB,fS,fI,fI,.fr 9,fI,.fr 3,fI,fS,fI,fI,.fr 9,fS,fI,fI,.fr 9,fI,.fr 3,fI,.fr 3]
abbrev sJ:List K:=[.sl 178,.bool,.str,au,au,.sl 9,au,.sl 3,au,.str,au,au,.sl 9,.str,au,au,.sl 9,au,.sl 3,au,.sl 3]
abbrev f126:List Lf:=[.fr 178,fB,fS,fI,fI,.fr 9,fI,.fr 3,fI,fS,fI,fI,.fr 9,fS,fI,fI,.fr 9,fI,.fr 3,fI,.fr 3]
abbrev Dl:List K:=[.sl 120,.sl 180,.bool,.str,au,au,.sl 9,.bool,.sl 3]
abbrev f129:List Lf:=[.fr 120,.fr 180,fB,fS,fI,fI,.fr 9,fB,.fr 3]
abbrev BL:List K:=[.sl 120,.sl 180,.bool,.str,au,au,.sl 9,.bool,.sl 3]
abbrev f130:List Lf:=[.fr 120,.fr 180,fB,fS,fI,fI,.fr 9,fB,.fr 3]
abbrev C8:List K:=[.sl 215,au]
abbrev f137:List Lf:=[.fr 215,fI]
abbrev BG:List K:=[.sl 215,au]
abbrev f138:List Lf:=[.fr 215,fI]
abbrev C2:List K:=[au,.str,.sl 178,.bool,.str,au,au,.sl 9,au,.sl 3,au,.str,au,au,.sl 9,.str,au,au,.sl 9,au,.sl 3,au,.sl 3]
abbrev f147:List Lf:=[fI,fS,.fr 178,fB,fS,fI,fI,.fr 9,fI,.fr 3,fI,fS,fI,fI,.fr 9,fS,fI,fI,.fr 9,fI,.fr 3,fI,.fr 3]
abbrev Ay:List K:=[au,.str,.sl 178,.bool,.str,au,au,.sl 9,au,.sl 3,au,.str,au,au,.sl 9,.str,au,au,.sl 9,au,.sl 3,au,.sl 3]
abbrev f148:List Lf:=[fI,fS,.fr 178,fB,fS,fI,fI,.fr 9,fI,.fr 3,fI,fS,fI,fI,.fr 9,fS,fI,fI,.fr 9,fI,.fr 3,fI,.fr 3]
abbrev CS:List K:=[.sl 3,au]
abbrev f154:List Lf:=[.fr 3,fI]
abbrev BY:List K:=[.sl 3,au]
abbrev f155:List Lf:=[.fr 3,fI]
abbrev Du:List K:=[au,au,au,au,au,au,au,au,.sl 3,au,.sl 3,au,au,.sl 3,au,.bool]
abbrev f156:List Lf:=[fI,fI,fI,fI,fI,fI,fI,fI,.fr 3,fI,.fr 3,fI,fI,.fr 3,fI,fB]
abbrev BW:List K:=[au,au,au,au,au,au,au,au,.sl 3,au,.sl 3,au,au,.sl 3,au,.bool]
abbrev f157:List Lf:=[fI,fI,fI,fI,fI,fI,fI,fI,.fr 3,fI,.fr 3,fI,fI,.fr 3,fI,fB]
abbrev Di:List K:=[au,au,au,au,au,au,au,au,.sl 3,au,.sl 3,au,au,.sl 3,au,.bool,.sl 315]
abbrev f159:List Lf:=[fI,fI,fI,fI,fI,fI,fI,fI,.fr 3,fI,.fr 3,fI,fI,.fr 3,fI,fB,.fr 315]
abbrev BV:List K:=[au,au,au,au,au,au,au,au,.sl 3,au,.sl 3,au,au,.sl 3,au,.bool,.sl 315]
abbrev f160:List Lf:=[fI,fI,fI,fI,fI,fI,fI,fI,.fr 3,fI,.fr 3,fI,fI,.fr 3,fI,fB,.fr 315]
abbrev Dm:List K:=[au,au,au,au,au,au,au,au,.sl 3,au,.sl 3,au,au,.sl 3,au,.bool,.sl 315,au,au,au,au,au,au,au,au,.sl 3,au,.sl 3,au,au,.sl 3,au,.bool,.sl 315,au,au,au,au,au,au,au,au,.sl 3,au,.sl 3,au,au,.sl 3,au,.bool,.sl 315]
abbrev f161:List Lf:=[fI,fI,fI,fI,fI,fI,fI,fI,.fr 3,fI,.fr 3,fI,fI,.fr 3,fI,fB,.fr 315,fI,fI,fI,fI,fI,fI,fI,fI,.fr 3,fI,.fr 3,fI,fI,.fr 3,fI,fB,.fr 315,fI,fI,fI,fI,fI,fI,fI,fI,.fr 3,fI,.fr 3,fI,fI,.fr 3,fI,fB,.fr 315]
abbrev B4:List K:=[au,au,au,au,au,au,au,au,.sl 3,au,.sl 3,au,au,.sl 3,au,.bool,.sl 315,au,au,au,au,au,au,au,au,.sl 3,au,.sl 3,au,au,.sl 3,au,.bool,.sl 315,au,au,au,au,au,au,au,au,.sl 3,au,.sl 3,au,au,.sl 3,au,.bool,.sl 315]
abbrev f162:List Lf:=[fI,fI,fI,fI,fI,fI,fI,fI,.fr 3,fI,.fr 3,fI,fI,.fr 3,fI,fB,.fr 315,fI,fI,fI,fI,fI,fI,fI,fI,.fr 3,fI,.fr 3,fI,fI,.fr 3,fI,fB,.fr 315,fI,fI,fI,fI,fI,fI,fI,fI,.fr 3,fI,.fr 3,fI,fI,.fr 3,fI,fB,.fr 315]
abbrev BC:List K:=[.str,au,au,.sl 9]
abbrev f164:List Lf:=[fS,fI,fI,.fr 9]
abbrev BP:List K:=[au,.sl 3]
abbrev f165:List Lf:=[fI,.fr 3]
abbrev Df:List K:=[au,.str,au,au,.sl 9,.str,au,au,.sl 9,au,.sl 3,au,.sl 3]
abbrev f166:List Lf:=[fI,fS,fI,fI,.fr 9,fS,fI,fI,.fr 9,fI,.fr 3,fI,.fr 3]
abbrev B9:List K:=[au,.str,au,au,.sl 9,.str,au,au,.sl 9,au,.sl 3,au,.sl 3]
abbrev f167:List Lf:=[fI,fS,fI,fI,.fr 9,fS,fI,fI,.fr 9,fI,.fr 3,fI,.fr 3]
abbrev C5:List K:=[.sl 160,.bool,.str,au,au,.sl 9,au,.sl 3,au,.str,au,au,.sl 9,.str,au,au,.sl 9,au,.sl 3,au,.sl 3]
abbrev f168:List Lf:=[.fr 160,fB,fS,fI,fI,.fr 9,fI,.fr 3,fI,fS,fI,fI,.fr 9,fS,fI,fI,.fr 9,fI,.fr 3,fI,.fr 3]
abbrev BT:List K:=[.sl 160,.bool,.str,au,au,.sl 9,au,.sl 3,au,.str,au,au,.sl 9,.str,au,au,.sl 9,au,.sl 3,au,.sl 3]
abbrev f169:List Lf:=[.fr 160,fB,fS,fI,fI,.fr 9,fI,.fr 3,fI,fS,fI,fI,.fr 9,fS,fI,fI,.fr 9,fI,.fr 3,fI,.fr 3]
abbrev CT:List K:=[au,.str,.sl 160,.bool,.str,au,au,.sl 9,au,.sl 3,au,.str,au,au,.sl 9,.str,au,au,.sl 9,au,.sl 3,au,.sl 3]
abbrev f170:List Lf:=[fI,fS,.fr 160,fB,fS,fI,fI,.fr 9,fI,.fr 3,fI,fS,fI,fI,.fr 9,fS,fI,fI,.fr 9,fI,.fr 3,fI,.fr 3]
abbrev Bz:List K:=[au,.str,.sl 160,.bool,.str,au,au,.sl 9,au,.sl 3,au,.str,au,au,.sl 9,.str,au,au,.sl 9,au,.sl 3,au,.sl 3]
abbrev f171:List Lf:=[fI,fS,.fr 160,fB,fS,fI,fI,.fr 9,fI,.fr 3,fI,fS,fI,fI,.fr 9,fS,fI,fI,.fr 9,fI,.fr 3,fI,.fr 3]
abbrev jw:List K:=[.sl 3,au]
abbrev f173:List Lf:=[.fr 3,fI]
abbrev CX:List K:=[au,au,au,au,au,au,au,au,.sl 3,au,.sl 3,au,au,.sl 3,au,.bool]
abbrev f174:List Lf:=[fI,fI,fI,fI,fI,fI,fI,fI,.fr 3,fI,.fr 3,fI,fI,.fr 3,fI,fB]
abbrev gB:List K:=[au,au,au,au,au,au,au,au,.sl 3,au,.sl 3,au,au,.sl 3,au,.bool]
abbrev f175:List Lf:=[fI,fI,fI,fI,fI,fI,fI,fI,.fr 3,fI,.fr 3,fI,fI,.fr 3,fI,fB]
abbrev C9:List K:=[au,au,au,au,au,au,au,au,.sl 3,au,.sl 3,au,au,.sl 3,au,.bool,.sl 227]
abbrev f177:List Lf:=[fI,fI,fI,fI,fI,fI,fI,fI,.fr 3,fI,.fr 3,fI,fI,.fr 3,fI,fB,.fr 227]
abbrev lB:List K:=[au,au,au,au,au,au,au,au,.sl 3,au,.sl 3,au,au,.sl 3,au,.bool,.sl 227]
abbrev f178:List Lf:=[fI,fI,fI,fI,fI,fI,fI,fI,.fr 3,fI,.fr 3,fI,fI,.fr 3,fI,fB,.fr 227]
abbrev Dd:List K:=[au,au,au,au,au,au,au,au,.sl 3,au,.sl 3,au,au,.sl 3,au,.bool,.sl 227,au,au,au,au,au,au,au,au,.sl 3,au,.sl 3,au,au,.sl 3,au,.bool,.sl 227,au,au,au,au,au,au,au,au,.sl 3,au,.sl 3,au,au,.sl 3,au,.bool,.sl 227]
abbrev f179:List Lf:=[fI,fI,fI,fI,fI,fI,fI,fI,.fr 3,fI,.fr 3,fI,fI,.fr 3,fI,fB,.fr 227,fI,fI,fI,fI,fI,fI,fI,fI,.fr 3,fI,.fr 3,fI,fI,.fr 3,fI,fB,.fr 227,fI,fI,fI,fI,fI,fI,fI,fI,.fr 3,fI,.fr 3,fI,fI,.fr 3,fI,fB,.fr 227]
abbrev uA:List K:=[au,au,au,au,au,au,au,au,.sl 3,au,.sl 3,au,au,.sl 3,au,.bool,.sl 227,au,au,au,au,au,au,au,au,.sl 3,au,.sl 3,au,au,.sl 3,au,.bool,.sl 227,au,au,au,au,au,au,au,au,.sl 3,au,.sl 3,au,au,.sl 3,au,.bool,.sl 227]
abbrev f180:List Lf:=[fI,fI,fI,fI,fI,fI,fI,fI,.fr 3,fI,.fr 3,fI,fI,.fr 3,fI,fB,.fr 227,fI,fI,fI,fI,fI,fI,fI,fI,.fr 3,fI,.fr 3,fI,fI,.fr 3,fI,fB,.fr 227,fI,fI,fI,fI,fI,fI,fI,fI,.fr 3,fI,.fr 3,fI,fI,.fr 3,fI,fB,.fr 227]
abbrev De:List K:=[.sl 178,.sl 38]
abbrev f214:List Lf:=[.fr 178,.fr 38]
abbrev xq:List K:=[.sl 178,.sl 38]
abbrev f215:List Lf:=[.fr 178,.fr 38]
abbrev Dk:List K:=[au,au]
abbrev f226:List Lf:=[fI,fI]
abbrev Ap:List K:=[au,au]
abbrev f227:List Lf:=[fI,fI]
abbrev C4:List K:=[.sl 160,.sl 164]
abbrev f232:List Lf:=[.fr 160,.fr 164]
abbrev C3:List K:=[.sl 160,.sl 164]
abbrev f233:List Lf:=[.fr 160,.fr 164]
abbrev Dp:List K:=[.int .i32,.int .u32]
abbrev f276:List Lf:=[.rd (.int .i32),.rd (.int .u32)]
abbrev Dh:List K:=[.int .i32,.int .u32]
abbrev f277:List Lf:=[.rd (.int .i32),.rd (.int .u32)]
abbrev Cn:List K:=[au,au]
abbrev f315:List Lf:=[fI,fI]
def mq:List (Nat×TI):=[
 (2,⟨[au],false,[],8,false⟩),
 (3,⟨[au],false,[],8,false⟩),
 (4,⟨[.bool],false,[],1,false⟩),
 (5,⟨[.int .u8],false,[],1,false⟩),
 (6,⟨[.int .u8],false,[],1,false⟩),
 (7,⟨k7,true,[(0,2),(1,3),(2,4),(3,6)],24,false⟩),
 (8,⟨k8,true,[(0,2),(1,3),(2,4),(3,6)],24,false⟩),
 (9,⟨[.str],false,[],16,false⟩),
 (10,⟨[.str],false,[],16,false⟩),
 (11,⟨[.str],false,[],16,false⟩),
 (12,⟨[.int .u64],false,[],8,false⟩),
 (13,⟨sR,true,[(0,9),(1,12)],24,false⟩),
 (14,⟨sU,true,[(0,9),(1,12)],24,false⟩),
 (21,⟨[.int .i32],false,[],4,false⟩),
 (22,⟨[.sl 152],false,[],24,false⟩),
 (23,⟨[.sl 162],false,[],24,false⟩),
 (24,⟨DH,true,[(0,22),(1,23)],48,false⟩),
 (25,⟨CW,true,[(0,22),(1,23)],48,false⟩),
 (26,⟨[.sl 171],false,[],24,false⟩),
 (27,⟨DI,true,[(0,26)],24,false⟩),
 (28,⟨C1,true,[(0,26)],24,false⟩),
 (29,⟨[.sl 9],false,[],24,false⟩),
 (33,⟨[.sl 120],false,[],24,false⟩),
 (34,⟨[.sl 180],false,[],24,false⟩),
 (35,⟨DG,true,[(0,33),(1,34)],48,false⟩),
 (36,⟨uY,true,[(0,33),(1,34)],48,false⟩),
 (37,⟨DK,true,[(0,9),(1,3),(2,3),(3,29)],56,false⟩),
 (38,⟨sX,true,[(0,9),(1,3),(2,3),(3,29)],56,false⟩),
 (39,⟨[.sl 3],false,[],24,false⟩),
 (40,⟨DB,true,[(0,36),(2,3),(3,38),(7,39),(8,3)],144,false⟩),
 (41,⟨CQ,true,[(0,36),(2,3),(3,38),(7,39),(8,3)],144,false⟩),
 (44,⟨[.sl 148],false,[],24,false⟩),
 (45,⟨DF,true,[(0,44)],24,false⟩),
 (46,⟨xV,true,[(0,44)],24,false⟩),
 (57,⟨[.sl 100],false,[],24,false⟩),
 (59,⟨[.sl 101],false,[],24,false⟩),
 (66,⟨[.sl 115],false,[],24,false⟩),
 (68,⟨DN,true,[(0,41),(9,46)],168,false⟩),
 (69,⟨DL,true,[(0,41),(9,46)],168,false⟩),
 (71,⟨[.sl 138],false,[],24,false⟩),
 (99,⟨DO,true,[(0,9),(1,3)],24,false⟩),
 (100,⟨Dr,true,[(0,9),(1,3)],24,true⟩),
 (101,⟨Da,true,[(0,9),(1,3)],24,true⟩),
 (113,⟨[.sl 233],false,[],24,false⟩),
 (114,⟨Dt,true,[(0,113),(1,3)],32,false⟩),
 (115,⟨CU,true,[(0,113),(1,3)],32,false⟩),
 (119,⟨[.sl 126],false,[],24,false⟩),
 (120,⟨[.sl 178],false,[],24,false⟩),
 (121,⟨C7,true,[(0,3),(1,39)],32,false⟩),
 (122,⟨oT,true,[(0,3),(1,39)],32,false⟩),
 (123,⟨Dj,true,[(0,3),(1,38),(5,38),(9,122),(11,122)],184,false⟩),
 (124,⟨rP,true,[(0,3),(1,38),(5,38),(9,122),(11,122)],184,false⟩),
 (125,⟨CV,true,[(0,120),(1,4),(2,38),(6,122),(8,124)],304,false⟩),
 (126,⟨sJ,true,[(0,120),(1,4),(2,38),(6,122),(8,124)],304,false⟩),
 (129,⟨Dl,true,[(0,36),(2,4),(3,38),(7,4),(8,39)],144,false⟩),
 (130,⟨BL,true,[(0,36),(2,4),(3,38),(7,4),(8,39)],144,false⟩),
 (136,⟨[.sl 215],false,[],24,false⟩),
 (137,⟨C8,true,[(0,136),(1,3)],32,false⟩),
 (138,⟨BG,true,[(0,136),(1,3)],32,false⟩),
 (147,⟨C2,true,[(0,3),(1,9),(2,126)],328,false⟩),
 (148,⟨Ay,true,[(0,3),(1,9),(2,126)],328,false⟩),
 (152,⟨[.sl 160],false,[],24,false⟩),
 (154,⟨CS,true,[(0,39),(1,3)],32,false⟩),
 (155,⟨BY,true,[(0,39),(1,3)],32,false⟩),
 (156,⟨Du,true,[(0,3),(1,3),(2,3),(3,3),(4,3),(5,3),(6,3),(7,3),(8,155),(10,155),(12,3),(13,155),(15,4)],176,false⟩),
 (157,⟨BW,true,[(0,3),(1,3),(2,3),(3,3),(4,3),(5,3),(6,3),(7,3),(8,155),(10,155),(12,3),(13,155),(15,4)],176,false⟩),
 (158,⟨[.sl 315],false,[],24,false⟩),
 (159,⟨Di,true,[(0,157),(16,158)],200,false⟩),
 (160,⟨BV,true,[(0,157),(16,158)],200,false⟩),
 (161,⟨Dm,true,[(0,160),(17,160),(34,160)],600,false⟩),
 (162,⟨B4,true,[(0,160),(17,160),(34,160)],600,false⟩),
 (164,⟨BC,true,[(0,9),(1,3),(2,3),(3,29)],56,false⟩),
 (165,⟨BP,true,[(0,3),(1,39)],32,false⟩),
 (166,⟨Df,true,[(0,3),(1,164),(5,164),(9,165),(11,165)],184,false⟩),
 (167,⟨B9,true,[(0,3),(1,164),(5,164),(9,165),(11,165)],184,false⟩),
 (168,⟨C5,true,[(0,152),(1,4),(2,164),(6,165),(8,167)],304,false⟩),
 (169,⟨BT,true,[(0,152),(1,4),(2,164),(6,165),(8,167)],304,false⟩),
 (170,⟨CT,true,[(0,3),(1,9),(2,169)],328,false⟩),
 (171,⟨Bz,true,[(0,3),(1,9),(2,169)],328,false⟩),
 (173,⟨jw,true,[(0,39),(1,3)],32,false⟩),
 (174,⟨CX,true,[(0,3),(1,3),(2,3),(3,3),(4,3),(5,3),(6,3),(7,3),(8,173),(10,173),(12,3),(13,173),(15,4)],176,false⟩),
 (175,⟨gB,true,[(0,3),(1,3),(2,3),(3,3),(4,3),(5,3),(6,3),(7,3),(8,173),(10,173),(12,3),(13,173),(15,4)],176,false⟩),
 (176,⟨[.sl 227],false,[],24,false⟩),
 (177,⟨C9,true,[(0,175),(16,176)],200,false⟩),
 (178,⟨lB,true,[(0,175),(16,176)],200,false⟩),
 (179,⟨Dd,true,[(0,178),(17,178),(34,178)],600,false⟩),
 (180,⟨uA,true,[(0,178),(17,178),(34,178)],600,false⟩),
 (188,⟨[.sl 5],false,[],24,false⟩),
 (213,⟨[.sl 38],false,[],24,false⟩),
 (214,⟨De,true,[(0,120),(1,213)],48,false⟩),
 (215,⟨xq,true,[(0,120),(1,213)],48,false⟩),
 (226,⟨Dk,true,[(0,3),(1,3)],16,false⟩),
 (227,⟨Ap,true,[(0,3),(1,3)],16,true⟩),
 (231,⟨[.sl 164],false,[],24,false⟩),
 (232,⟨C4,true,[(0,152),(1,231)],48,false⟩),
 (233,⟨C3,true,[(0,152),(1,231)],48,false⟩),
 (273,⟨[.int .u32],false,[],4,false⟩),
 (276,⟨Dp,true,[(0,21),(1,273)],8,false⟩),
 (277,⟨Dh,true,[(0,21),(1,273)],8,false⟩),
 (315,⟨Cn,true,[(0,3),(1,3)],16,true⟩),
 (390,⟨[.sl 39],false,[],24,false⟩),
 (391,⟨[.int .u64],false,[],8,false⟩),
 (406,⟨[.int .u8],false,[],1,false⟩),
 (407,⟨[.int .u8],false,[],1,false⟩),
 (410,⟨[.int .i32],false,[],4,false⟩),
 (411,⟨[.int .i32],false,[],4,false⟩),
 (427,⟨[.sl 5],false,[],24,false⟩)]
abbrev Ev:Env:=dP mq
def aB:eO Tryz.prog mq=true:=by kernel_rfl
def mix:Tryz.prog.follows .mixedOrders=true:=by kernel_rfl
abbrev cC:=Valid Tryz.prog Ev
namespace Z0
def F (x0:aD)(x1:Int):aI:=(cond ((i64.wrap (x1 - x0.length))<0) (ret ((-1):Int)) (ret ((i64.wrap (x1 - x0.length)))))
def md (a0:List Int)(a1:Int):Int:=iD (eC (fun y:Int=>0) a0) a1
def gd (a0:List Int)(a1:Int):Prop:=(bO maxLen (fun y:Int=>True) a0)/\0<=a1/\a1<=1048576
def R:=RR (p2 gd) (u2 md)
def aj {a0 a1}(h:gd a0 a1):R ((a0.map bk),a1)=some (md a0 a1):=cB h
def aU:=CN [pL 3,pI] oI RT.dec R
def bh (a0)(a1)(hg:gd a0 a1):F (a0.map bk) a1=ret (md a0 a1):=by
 obtain ⟨hs,g0,g1⟩:=hg
 unfold F md
 rw [List.length_map,ng g0 g1 hs.1]
 have e:eC (fun y:Int=>0) a0=a0.length:=by
  unfold eC
  have :(a0.map (fun y:Int=>0)).sum=0:=sF (fun _=>rfl) a0
  omega
 rw [e]
 by_cases hc:a1<((a0.length:Nat):Int)
 ·rw [cw hc,decide_eq_true (by omega)];rfl
 ·rw [cV hc,decide_eq_false (by omega)];rfl
def af:cC 275 aU:=W2 12 F mix aB bh .nil Tryz.func275
end Z0
namespace Z1
def F (x0:cN)(x1:Int):aI:=(call (Z0.R (x0.aN,x1)) fun v1=>(cond (v1<0) (ret ((-1):Int)) (ret v1)))
def md (a0:aO)(a1:Int):Int:=iD (aO.size a0) a1
def gd (a0:aO)(a1:Int):Prop:=(aO.Sm maxLen a0)/\0<=a1/\a1<=1048576
def R:=RR (p2 gd) (u2 md)
def aj {a0 a1}(h:gd a0 a1):R ((aO.r a0),a1)=some (md a0 a1):=cB h
def aU:=CN [.agg BY,pI] oI RT.dec R
def bh (a0)(a1)(hg:gd a0 a1):F (aO.r a0) a1=ret (md a0 a1):=by
 obtain ⟨hs,g0,g1⟩:=hg
 unfold md
 show (call (Z0.R ((a0.aN.map bk),a1)) fun v1=>(cond (v1<0) (ret ((-1):Int)) (ret (v1:Int))))=_
 rw [call_eq (Z0.aj ⟨hs,by omega,by omega⟩)]
 unfold Z0.md
 by_cases c0:a1<((eC (fun y:Int=>0) a0.aN:Nat):Int)
 ·rw [cw c0];rw [show iD (aO.size a0) a1=-1 from cw (by unfold aO.size;omega)];try rfl
 rw [cV c0,dx (by omega),bg]
 rw [show iD (aO.size a0) a1=a1 - ((eC (fun y:Int=>0) a0.aN:Nat):Int) from by rw [cV (by unfold aO.size;omega)];unfold aO.size;omega]
def af:cC 274 aU:=W2 12 F mix aB bh (cJ Z0.af) Tryz.func274
end Z1
namespace Z2
def F (x0:dm)(x1:Int):aI:=(call (Z1.R (x0.bR,x1)) fun v1=>(cond (v1<0) (ret ((-1):Int)) (call (Z1.R (x0.bE,v1)) fun v2=>(cond (v2<0) (ret ((-1):Int)) (call (Z1.R (x0.bB,v2)) fun v3=>(cond (v3<0) (ret ((-1):Int)) (ret (v3:Int))))))))
def md (a0:aE)(a1:Int):Int:=iD (aE.size a0) a1
def gd (a0:aE)(a1:Int):Prop:=(aE.Sm maxLen a0)/\0<=a1/\a1<=1048576
def R:=RR (p2 gd) (u2 md)
def aj {a0 a1}(h:gd a0 a1):R ((aE.r a0),a1)=some (md a0 a1):=cB h
def aU:=CN [.agg BW,pI] oI RT.dec R
def bh (a0)(a1)(hg:gd a0 a1):F (aE.r a0) a1=ret (md a0 a1):=by
 obtain ⟨hs,g0,g1⟩:=hg
 unfold md
 show (call (Z1.R ((aO.r a0.bR),a1)) fun v1=>(bif (decide (v1<0)) then ret ((-1):Int) else (call (Z1.R ((aO.r a0.bE),v1)) fun v2=>(bif (decide (v2<0)) then ret ((-1):Int) else (call (Z1.R ((aO.r a0.bB),v2)) fun v3=>(cond (v3<0) (ret ((-1):Int)) (ret (v3:Int))))))))=_
 rw [call_eq (Z1.aj (a1:=a1) ⟨hs.1,by omega,by omega⟩)]
 unfold Z1.md
 by_cases c0:a1<((aO.size a0.bR:Nat):Int)
 ·rw [cw c0];rw [show iD (aE.size a0) a1=-1 from cw (by unfold aE.size;omega)];try rfl
 rw [cV c0,dx (by omega),bg]
 rw [call_eq (Z1.aj (a1:=(a1 - ((aO.size a0.bR:Nat):Int))) ⟨hs.2.1,by omega,by omega⟩)]
 unfold Z1.md
 by_cases c1:(a1 - ((aO.size a0.bR:Nat):Int))<((aO.size a0.bE:Nat):Int)
 ·rw [cw c1];rw [show iD (aE.size a0) a1=-1 from cw (by unfold aE.size;omega)];try rfl
 rw [cV c1,dx (by omega),bg]
 rw [call_eq (Z1.aj (a1:=(a1 - ((aO.size a0.bR:Nat):Int) - ((aO.size a0.bE:Nat):Int))) ⟨hs.2.2,by omega,by omega⟩)]
 unfold Z1.md
 by_cases c2:(a1 - ((aO.size a0.bR:Nat):Int) - ((aO.size a0.bE:Nat):Int))<((aO.size a0.bB:Nat):Int)
 ·rw [cw c2];rw [show iD (aE.size a0) a1=-1 from cw (by unfold aE.size;omega)];try rfl
 rw [cV c2,dx (by omega),bg]
 rw [show iD (aE.size a0) a1=a1 - ((aO.size a0.bR:Nat):Int) - ((aO.size a0.bE:Nat):Int) - ((aO.size a0.bB:Nat):Int) from by rw [cV (by unfold aE.size;omega)];unfold aE.size;omega]
def af:cC 210 aU:=W2 24 F mix aB bh (cJ Z1.af) Tryz.func210
end Z2
namespace Z3
def F (x0:aD)(x1:Int):aI:=(cond ((i64.wrap (x1 - x0.length))<0) (ret ((-1):Int)) (ret ((i64.wrap (x1 - x0.length)))))
def md (a0:List bn)(a1:Int):Int:=iD (eC (fun y:bn=>bn.size y) a0) a1
def gd (a0:List bn)(a1:Int):Prop:=(bO maxLen (fun y:bn=>bn.Sm maxLen y) a0)/\0<=a1/\a1<=1048576
def R:=RR (p2 gd) (u2 md)
def aj {a0 a1}(h:gd a0 a1):R ((a0.map bn.row),a1)=some (md a0 a1):=cB h
def aU:=CN [pL 315,pI] oI RT.dec R
def bh (a0)(a1)(hg:gd a0 a1):F (a0.map bn.row) a1=ret (md a0 a1):=by
 obtain ⟨hs,g0,g1⟩:=hg
 unfold F md
 rw [List.length_map,ng g0 g1 hs.1]
 have e:eC (fun y:bn=>bn.size y) a0=a0.length:=by
  unfold eC
  have :(a0.map (fun y:bn=>bn.size y)).sum=0:=sF (fun _=>rfl) a0
  omega
 rw [e]
 by_cases hc:a1<((a0.length:Nat):Int)
 ·rw [cw hc,decide_eq_true (by omega)];rfl
 ·rw [cV hc,decide_eq_false (by omega)];rfl
def af:cC 211 aU:=W2 12 F mix aB bh .nil Tryz.func211
end Z3
namespace Z4
def F (x0:aY)(x1:Int):aI:=(call (Z2.R (x0.an,x1)) fun v1=>(cond (v1<0) (ret ((-1):Int)) (call (Z3.R (x0.cI,v1)) fun v2=>(cond (v2<0) (ret ((-1):Int)) (ret v2)))))
def md (a0:aa)(a1:Int):Int:=iD (aa.size a0) a1
def gd (a0:aa)(a1:Int):Prop:=(aa.Sm maxLen a0)/\0<=a1/\a1<=1048576
def R:=RR (p2 gd) (u2 md)
def aj {a0 a1}(h:gd a0 a1):R ((aa.r a0),a1)=some (md a0 a1):=cB h
def aU:=CN [.agg BV,pI] oI RT.dec R
def bh (a0)(a1)(hg:gd a0 a1):F (aa.r a0) a1=ret (md a0 a1):=by
 obtain ⟨hs,g0,g1⟩:=hg
 unfold md
 show (call (Z2.R ((aE.r a0.an),a1)) fun v1=>(bif (decide (v1<0)) then ret ((-1):Int) else (call (Z3.R ((a0.cI.map bn.row),v1)) fun v2=>(cond (v2<0) (ret ((-1):Int)) (ret (v2:Int))))))=_
 rw [call_eq (Z2.aj ⟨hs.1,by omega,by omega⟩)]
 unfold Z2.md
 by_cases c0:a1<((aE.size a0.an:Nat):Int)
 ·rw [cw c0];rw [show iD (aa.size a0) a1=-1 from cw (by unfold aa.size;omega)];try rfl
 rw [cV c0,dx (by omega),bg]
 rw [call_eq (Z3.aj ⟨hs.2,by omega,by omega⟩)]
 unfold Z3.md
 by_cases c1:(a1 - ((aE.size a0.an:Nat):Int))<((eC (fun y:bn=>bn.size y) a0.cI:Nat):Int)
 ·rw [cw c1];rw [show iD (aa.size a0) a1=-1 from cw (by unfold aa.size;omega)];try rfl
 rw [cV c1,dx (by omega),bg]
 rw [show iD (aa.size a0) a1=a1 - ((aE.size a0.an:Nat):Int) - ((eC (fun y:bn=>bn.size y) a0.cI:Nat):Int) from by rw [cV (by unfold aa.size;omega)];unfold aa.size;omega]
def af:cC 160 aU:=W2 18 F mix aB bh (eM Z2.af Z3.af) Tryz.func160
end Z4
namespace Z5
inductive Pt where
 | p0 (a:aD) (b c:Int)
def cG:Pt->List V
 | .p0 a b c=>[.sl none 160 a,.int .i64 b,.int .i64 c]
def step (J:Pt->aI):Pt->aI
 | .p0 a b c=>(cond (c<(a.length:Int)) (m2 c (a.length:Int) (call (Z4.R ((aY.at a (toNat c)),b)) fun v1=>(cond (v1<0) (ret ((-1):Int)) (J (.p0 a v1 (i64.wrap (c+1))))))) (ret (b:Int)))
def start (J:Pt->aI)(x0:aD)(x1:Int):aI:=(cond ((i64.wrap (x1 - (x0.length:Int)))<0) (ret ((-1):Int)) (J (.p0 x0 (i64.wrap (x1 - (x0.length:Int))) 0)))
def live:Nat->Live:=fL [(5,gA [0,1,5])]
def md (a0:List aa)(a1:Int):Int:=iD (eC (fun y:aa=>aa.size y) a0) a1
def gd (a0:List aa)(a1:Int):Prop:=(bO maxLen (fun y:aa=>aa.Sm maxLen y) a0)/\0<=a1/\a1<=1048576
def R:=RR (p2 gd) (u2 md)
def aj {a0 a1}(h:gd a0 a1):R ((a0.map aa.row),a1)=some (md a0 a1):=cB h
def aU:=CN [pL 160,pI] oI RT.dec R
def bh (a0)(a1)(hg:gd a0 a1):∃n,start (iter step n) (a0.map aa.row) a1=ret (md a0 a1):=by
 obtain ⟨hs,g0,g1⟩:=hg
 unfold start md
 simp only [List.length_map]
 refine oU (pt:=fun left i=>Pt.p0 (a0.map aa.row) left (i:Int)) (f:=fun y:aa=>aa.size y) hs.1 (fun J i h left p0 p1=>?_) (fun J left=>?_) g0 g1
 ·simp only [step,MM,List.length_map,aP h,aK,aZ,dw,aa.gJ h]
  rw [call_eq (Z4.aj ⟨hs.get h,p0,p1⟩),aJ h hs.1]
  unfold Z4.md
  by_cases hc:left<((aa.size (a0[i]):Nat):Int)
  ·rw [cw hc,if_pos hc];rfl
  ·rw [cV hc,if_neg hc,dx (by omega)];rfl
 ·simp only [step,List.length_map,fH,bg]
def af:cC 108 aU:=L2 27 (fun _=>5) cG (fun _=>[]) live step start mix aB bh (cJ Z4.af) Tryz.func108
end Z5
namespace Z6
inductive Pt where
 | p0 (a:aD) (b c:Int)
def cG:Pt->List V
 | .p0 a b c=>[.sl none 152 a,.int .i64 b,.int .i64 c]
def step (J:Pt->aI):Pt->aI
 | .p0 a b c=>(cond (c<(a.length:Int)) (m2 c (a.length:Int) (call (Z5.R ((qd a (toNat c)),b)) fun v1=>(cond (v1<0) (ret ((-1):Int)) (J (.p0 a v1 (i64.wrap (c+1))))))) (ret (b:Int)))
def start (J:Pt->aI)(x0:aD)(x1:Int):aI:=(cond ((i64.wrap (x1 - (x0.length:Int)))<0) (ret ((-1):Int)) (J (.p0 x0 (i64.wrap (x1 - (x0.length:Int))) 0)))
def live:Nat->Live:=fL [(5,gA [0,1,5])]
def md (a0:List (List aa))(a1:Int):Int:=iD (eC (fun y:List aa=>eC (fun y:aa=>aa.size y) y) a0) a1
def gd (a0:List (List aa))(a1:Int):Prop:=(bO maxLen (fun y:List aa=>bO maxLen (fun y:aa=>aa.Sm maxLen y) y) a0)/\0<=a1/\a1<=1048576
def R:=RR (p2 gd) (u2 md)
def aj {a0 a1}(h:gd a0 a1):R ((a0.map (eg aa.row)),a1)=some (md a0 a1):=cB h
def aU:=CN [pL 152,pI] oI RT.dec R
def bh (a0)(a1)(hg:gd a0 a1):∃n,start (iter step n) (a0.map (eg aa.row)) a1=ret (md a0 a1):=by
 obtain ⟨hs,g0,g1⟩:=hg
 unfold start md
 simp only [List.length_map]
 refine oU (pt:=fun left i=>Pt.p0 (a0.map (eg aa.row)) left (i:Int)) (f:=fun y:List aa=>eC (fun y:aa=>aa.size y) y) hs.1 (fun J i h left p0 p1=>?_) (fun J left=>?_) g0 g1
 ·simp only [step,MM,List.length_map,aP h,aK,aZ,dw,qR h]
  rw [call_eq (Z5.aj ⟨hs.get h,p0,p1⟩),aJ h hs.1]
  unfold Z5.md
  by_cases hc:left<((eC (fun y:aa=>aa.size y) (a0[i]):Nat):Int)
  ·rw [cw hc,if_pos hc];rfl
  ·rw [cV hc,if_neg hc,dx (by omega)];rfl
 ·simp only [step,List.length_map,fH,bg]
def af:cC 46 aU:=L2 27 (fun _=>5) cG (fun _=>[]) live step start mix aB bh (cJ Z5.af) Tryz.func46
end Z6
namespace Z7
def F (x0:bM)(x1:Int):aI:=(call (Z4.R (x0.aM,x1)) fun v1=>(cond (v1<0) (ret ((-1):Int)) (call (Z4.R (x0.fA,v1)) fun v2=>(cond (v2<0) (ret ((-1):Int)) (call (Z4.R (x0.fB,v2)) fun v3=>(cond (v3<0) (ret ((-1):Int)) (ret (v3:Int))))))))
def md (a0:aF)(a1:Int):Int:=iD (aF.size a0) a1
def gd (a0:aF)(a1:Int):Prop:=(aF.Sm maxLen a0)/\0<=a1/\a1<=1048576
def R:=RR (p2 gd) (u2 md)
def aj {a0 a1}(h:gd a0 a1):R ((aF.r a0),a1)=some (md a0 a1):=cB h
def aU:=CN [.agg B4,pI] oI RT.dec R
def bh (a0)(a1)(hg:gd a0 a1):F (aF.r a0) a1=ret (md a0 a1):=by
 obtain ⟨hs,g0,g1⟩:=hg
 unfold md
 show (call (Z4.R ((aa.r a0.aM),a1)) fun v1=>(bif (decide (v1<0)) then ret ((-1):Int) else (call (Z4.R ((aa.r a0.fA),v1)) fun v2=>(bif (decide (v2<0)) then ret ((-1):Int) else (call (Z4.R ((aa.r a0.fB),v2)) fun v3=>(cond (v3<0) (ret ((-1):Int)) (ret (v3:Int))))))))=_
 rw [call_eq (Z4.aj (a1:=a1) ⟨hs.1,by omega,by omega⟩)]
 unfold Z4.md
 by_cases c0:a1<((aa.size a0.aM:Nat):Int)
 ·rw [cw c0];rw [show iD (aF.size a0) a1=-1 from cw (by unfold aF.size;omega)];try rfl
 rw [cV c0,dx (by omega),bg]
 rw [call_eq (Z4.aj (a1:=(a1 - ((aa.size a0.aM:Nat):Int))) ⟨hs.2.1,by omega,by omega⟩)]
 unfold Z4.md
 by_cases c1:(a1 - ((aa.size a0.aM:Nat):Int))<((aa.size a0.fA:Nat):Int)
 ·rw [cw c1];rw [show iD (aF.size a0) a1=-1 from cw (by unfold aF.size;omega)];try rfl
 rw [cV c1,dx (by omega),bg]
 rw [call_eq (Z4.aj (a1:=(a1 - ((aa.size a0.aM:Nat):Int) - ((aa.size a0.fA:Nat):Int))) ⟨hs.2.2,by omega,by omega⟩)]
 unfold Z4.md
 by_cases c2:(a1 - ((aa.size a0.aM:Nat):Int) - ((aa.size a0.fA:Nat):Int))<((aa.size a0.fB:Nat):Int)
 ·rw [cw c2];rw [show iD (aF.size a0) a1=-1 from cw (by unfold aF.size;omega)];try rfl
 rw [cV c2,dx (by omega),bg]
 rw [show iD (aF.size a0) a1=a1 - ((aa.size a0.aM:Nat):Int) - ((aa.size a0.fA:Nat):Int) - ((aa.size a0.fB:Nat):Int) from by rw [cV (by unfold aF.size;omega)];unfold aF.size;omega]
def af:cC 109 aU:=W2 24 F mix aB bh (cJ Z4.af) Tryz.func109
end Z7
namespace Z8
inductive Pt where
 | p0 (a:aD) (b c:Int)
def cG:Pt->List V
 | .p0 a b c=>[.sl none 162 a,.int .i64 b,.int .i64 c]
def step (J:Pt->aI):Pt->aI
 | .p0 a b c=>(cond (c<(a.length:Int)) (m2 c (a.length:Int) (call (Z7.R ((bM.at a (toNat c)),b)) fun v1=>(cond (v1<0) (ret ((-1):Int)) (J (.p0 a v1 (i64.wrap (c+1))))))) (ret (b:Int)))
def start (J:Pt->aI)(x0:aD)(x1:Int):aI:=(cond ((i64.wrap (x1 - (x0.length:Int)))<0) (ret ((-1):Int)) (J (.p0 x0 (i64.wrap (x1 - (x0.length:Int))) 0)))
def live:Nat->Live:=fL [(5,gA [0,1,5])]
def md (a0:List aF)(a1:Int):Int:=iD (eC (fun y:aF=>aF.size y) a0) a1
def gd (a0:List aF)(a1:Int):Prop:=(bO maxLen (fun y:aF=>aF.Sm maxLen y) a0)/\0<=a1/\a1<=1048576
def R:=RR (p2 gd) (u2 md)
def aj {a0 a1}(h:gd a0 a1):R ((a0.map aF.row),a1)=some (md a0 a1):=cB h
def aU:=CN [pL 162,pI] oI RT.dec R
def bh (a0)(a1)(hg:gd a0 a1):∃n,start (iter step n) (a0.map aF.row) a1=ret (md a0 a1):=by
 obtain ⟨hs,g0,g1⟩:=hg
 unfold start md
 simp only [List.length_map]
 refine oU (pt:=fun left i=>Pt.p0 (a0.map aF.row) left (i:Int)) (f:=fun y:aF=>aF.size y) hs.1 (fun J i h left p0 p1=>?_) (fun J left=>?_) g0 g1
 ·simp only [step,MM,List.length_map,aP h,aK,aZ,dw,aF.gJ h]
  rw [call_eq (Z7.aj ⟨hs.get h,p0,p1⟩),aJ h hs.1]
  unfold Z7.md
  by_cases hc:left<((aF.size (a0[i]):Nat):Int)
  ·rw [cw hc,if_pos hc];rfl
  ·rw [cV hc,if_neg hc,dx (by omega)];rfl
 ·simp only [step,List.length_map,fH,bg]
def af:cC 47 aU:=L2 27 (fun _=>5) cG (fun _=>[]) live step start mix aB bh (cJ Z7.af) Tryz.func47
end Z8
namespace Z9
def F (x0:bu)(x1:Int):aI:=(call (Z6.R (x0.aL,x1)) fun v1=>(cond (v1<0) (ret ((-1):Int)) (call (Z8.R (x0.bp,v1)) fun v2=>(cond (v2<0) (ret ((-1):Int)) (ret (v2:Int))))))
def md (a0:av)(a1:Int):Int:=iD (av.size a0) a1
def gd (a0:av)(a1:Int):Prop:=(av.Sm maxLen a0)/\0<=a1/\a1<=1048576
def R:=RR (p2 gd) (u2 md)
def aj {a0 a1}(h:gd a0 a1):R ((av.r a0),a1)=some (md a0 a1):=cB h
def aU:=CN [.agg CW,pI] oI RT.dec R
def bh (a0)(a1)(hg:gd a0 a1):F (av.r a0) a1=ret (md a0 a1):=by
 obtain ⟨hs,g0,g1⟩:=hg
 unfold md
 show (call (Z6.R ((a0.aL.map (eg aa.row)),a1)) fun v1=>(bif (decide (v1<0)) then ret ((-1):Int) else (call (Z8.R ((a0.bp.map aF.row),v1)) fun v2=>(cond (v2<0) (ret ((-1):Int)) (ret (v2:Int))))))=_
 rw [call_eq (Z6.aj (a1:=a1) ⟨hs.1,by omega,by omega⟩)]
 unfold Z6.md
 by_cases c0:a1<((eC (fun y:List aa=>eC (fun y:aa=>aa.size y) y) a0.aL:Nat):Int)
 ·rw [cw c0];rw [show iD (av.size a0) a1=-1 from cw (by unfold av.size;omega)];try rfl
 rw [cV c0,dx (by omega),bg]
 rw [call_eq (Z8.aj (a1:=(a1 - ((eC (fun y:List aa=>eC (fun y:aa=>aa.size y) y) a0.aL:Nat):Int))) ⟨hs.2,by omega,by omega⟩)]
 unfold Z8.md
 by_cases c1:(a1 - ((eC (fun y:List aa=>eC (fun y:aa=>aa.size y) y) a0.aL:Nat):Int))<((eC (fun y:aF=>aF.size y) a0.bp:Nat):Int)
 ·rw [cw c1];rw [show iD (av.size a0) a1=-1 from cw (by unfold av.size;omega)];try rfl
 rw [cV c1,dx (by omega),bg]
 rw [show iD (av.size a0) a1=a1 - ((eC (fun y:List aa=>eC (fun y:aa=>aa.size y) y) a0.aL:Nat):Int) - ((eC (fun y:aF=>aF.size y) a0.bp:Nat):Int) from by rw [cV (by unfold av.size;omega)];unfold av.size;omega]
def af:cC 8 aU:=W2 18 F mix aB bh (eM Z6.af Z8.af) Tryz.func8
end Z9
namespace Z10
inductive Pt where
 | p0 (a:aD) (b c:Int)
def cG:Pt->List V
 | .p0 a b c=>[.sl none 9 a,.int .i64 b,.int .i64 c]
def step (J:Pt->aI):Pt->aI
 | .p0 a b c=>(cond (c<(a.length:Int)) (m2 c (a.length:Int) (cond ((i64.wrap (b - ((qA a (toNat c)).size:Int)))<0) (ret ((-1):Int)) (J (.p0 a (i64.wrap (b - ((qA a (toNat c)).size:Int))) (i64.wrap (c+1)))))) (ret (b:Int)))
def start (J:Pt->aI)(x0:aD)(x1:Int):aI:=(cond ((i64.wrap (x1 - (x0.length:Int)))<0) (ret ((-1):Int)) (J (.p0 x0 (i64.wrap (x1 - (x0.length:Int))) 0)))
def live:Nat->Live:=fL [(5,gA [0,1,5])]
def md (a0:List aC)(a1:Int):Int:=iD (eC (fun y:aC=>y.size) a0) a1
def gd (a0:List aC)(a1:Int):Prop:=(bO maxLen (fun y:aC=>y.size<=maxLen) a0)/\0<=a1/\a1<=1048576
def R:=RR (p2 gd) (u2 md)
def aj {a0 a1}(h:gd a0 a1):R ((a0.map cK),a1)=some (md a0 a1):=cB h
def aU:=CN [pL 9,pI] oI RT.dec R
def bh (a0)(a1)(hg:gd a0 a1):∃n,start (iter step n) (a0.map cK) a1=ret (md a0 a1):=by
 obtain ⟨hs,g0,g1⟩:=hg
 unfold start md
 simp only [List.length_map]
 refine oU (pt:=fun left i=>Pt.p0 (a0.map cK) left (i:Int)) (f:=fun y:aC=>y.size) hs.1 (fun J i h left p0 p1=>?_) (fun J left=>?_) g0 g1
 ·simp only [step,MM,List.length_map,aP h,aK,aZ,dw,qW h]
  rw [ng p0 p1 (hs.get h),aJ h hs.1]
  by_cases hc:left - ((a0[i].size:Nat):Int)<0
  ·rw [decide_eq_true hc,if_pos (by omega)];rfl
  ·rw [decide_eq_false hc,if_neg (by omega)];rfl
 ·simp only [step,List.length_map,fH,bg]
def af:cC 10 aU:=L2 28 (fun _=>5) cG (fun _=>[]) live step start mix aB bh .nil Tryz.func10
end Z10
namespace Z11
def F (x0:bH)(x1:Int):aI:=(cond ((i64.wrap (x1 - x0.aV.size))<0) (ret ((-1):Int)) (call (Z10.R (x0.bz,(i64.wrap (x1 - x0.aV.size)))) fun v1=>(cond (v1<0) (ret ((-1):Int)) (ret v1))))
def md (a0:ah)(a1:Int):Int:=iD (ah.size a0) a1
def gd (a0:ah)(a1:Int):Prop:=(ah.Sm maxLen a0)/\0<=a1/\a1<=1048576
def R:=RR (p2 gd) (u2 md)
def aj {a0 a1}(h:gd a0 a1):R ((ah.r a0),a1)=some (md a0 a1):=cB h
def aU:=CN [.agg BC,pI] oI RT.dec R
def bh (a0)(a1)(hg:gd a0 a1):F (ah.r a0) a1=ret (md a0 a1):=by
 obtain ⟨hs,g0,g1⟩:=hg
 unfold md
 show (bif (decide ((i64.wrap (a1 - (a0.aV.size:Int)))<0)) then ret ((-1):Int) else (call (Z10.R ((a0.bz.map cK),(i64.wrap (a1 - (a0.aV.size:Int))))) fun v1=>(cond (v1<0) (ret ((-1):Int)) (ret (v1:Int)))))=_
 rw [ng (left:=a1) (by omega) (by omega) hs.1]
 by_cases c0:a1 - ((a0.aV.size:Nat):Int)<0
 ·rw [decide_eq_true c0,aZ];rw [show iD (ah.size a0) a1=-1 from cw (by unfold ah.size;omega)];try rfl
 rw [decide_eq_false c0,bg]
 rw [call_eq (Z10.aj ⟨hs.2,by omega,by omega⟩)]
 unfold Z10.md
 by_cases c1:(a1 - ((a0.aV.size:Nat):Int))<((eC (fun y:aC=>y.size) a0.bz:Nat):Int)
 ·rw [cw c1];rw [show iD (ah.size a0) a1=-1 from cw (by unfold ah.size;omega)];try rfl
 rw [cV c1,dx (by omega),bg]
 rw [show iD (ah.size a0) a1=a1 - ((a0.aV.size:Nat):Int) - ((eC (fun y:aC=>y.size) a0.bz:Nat):Int) from by rw [cV (by unfold ah.size;omega)];unfold ah.size;omega]
def af:cC 212 aU:=W2 19 F mix aB bh (cJ Z10.af) Tryz.func212
end Z11
namespace Z12
def F (x0:cS)(x1:Int):aI:=(call (Z0.R (x0.bz,x1)) fun v1=>(cond (v1<0) (ret ((-1):Int)) (ret v1)))
def md (a0:aH)(a1:Int):Int:=iD (aH.size a0) a1
def gd (a0:aH)(a1:Int):Prop:=(aH.Sm maxLen a0)/\0<=a1/\a1<=1048576
def R:=RR (p2 gd) (u2 md)
def aj {a0 a1}(h:gd a0 a1):R ((aH.r a0),a1)=some (md a0 a1):=cB h
def aU:=CN [.agg BP,pI] oI RT.dec R
def bh (a0)(a1)(hg:gd a0 a1):F (aH.r a0) a1=ret (md a0 a1):=by
 obtain ⟨hs,g0,g1⟩:=hg
 unfold md
 show (call (Z0.R ((a0.bz.map bk),a1)) fun v1=>(cond (v1<0) (ret ((-1):Int)) (ret (v1:Int))))=_
 rw [call_eq (Z0.aj ⟨hs,by omega,by omega⟩)]
 unfold Z0.md
 by_cases c0:a1<((eC (fun y:Int=>0) a0.bz:Nat):Int)
 ·rw [cw c0];rw [show iD (aH.size a0) a1=-1 from cw (by unfold aH.size;omega)];try rfl
 rw [cV c0,dx (by omega),bg]
 rw [show iD (aH.size a0) a1=a1 - ((eC (fun y:Int=>0) a0.bz:Nat):Int) from by rw [cV (by unfold aH.size;omega)];unfold aH.size;omega]
def af:cC 213 aU:=W2 12 F mix aB bh (cJ Z0.af) Tryz.func213
end Z12
namespace Z13
def F (x0:eN)(x1:Int):aI:=(call (Z11.R (x0.aM,x1)) fun v1=>(cond (v1<0) (ret ((-1):Int)) (call (Z11.R (x0.bU,v1)) fun v2=>(cond (v2<0) (ret ((-1):Int)) (call (Z12.R (x0.dI,v2)) fun v3=>(cond (v3<0) (ret ((-1):Int)) (call (Z12.R (x0.cz,v3)) fun v4=>(cond (v4<0) (ret ((-1):Int)) (ret (v4:Int))))))))))
def md (a0:bK)(a1:Int):Int:=iD (bK.size a0) a1
def gd (a0:bK)(a1:Int):Prop:=(bK.Sm maxLen a0)/\0<=a1/\a1<=1048576
def R:=RR (p2 gd) (u2 md)
def aj {a0 a1}(h:gd a0 a1):R ((bK.r a0),a1)=some (md a0 a1):=cB h
def aU:=CN [.agg B9,pI] oI RT.dec R
def bh (a0)(a1)(hg:gd a0 a1):F (bK.r a0) a1=ret (md a0 a1):=by
 obtain ⟨hs,g0,g1⟩:=hg
 unfold md
 show (call (Z11.R ((ah.r a0.aM),a1)) fun v1=>(bif (decide (v1<0)) then ret ((-1):Int) else (call (Z11.R ((ah.r a0.bU),v1)) fun v2=>(bif (decide (v2<0)) then ret ((-1):Int) else (call (Z12.R ((aH.r a0.dI),v2)) fun v3=>(bif (decide (v3<0)) then ret ((-1):Int) else (call (Z12.R ((aH.r a0.cz),v3)) fun v4=>(cond (v4<0) (ret ((-1):Int)) (ret (v4:Int))))))))))=_
 rw [call_eq (Z11.aj (a1:=a1) ⟨hs.1,by omega,by omega⟩)]
 unfold Z11.md
 by_cases c0:a1<((ah.size a0.aM:Nat):Int)
 ·rw [cw c0];rw [show iD (bK.size a0) a1=-1 from cw (by unfold bK.size;omega)];try rfl
 rw [cV c0,dx (by omega),bg]
 rw [call_eq (Z11.aj (a1:=(a1 - ((ah.size a0.aM:Nat):Int))) ⟨hs.2.1,by omega,by omega⟩)]
 unfold Z11.md
 by_cases c1:(a1 - ((ah.size a0.aM:Nat):Int))<((ah.size a0.bU:Nat):Int)
 ·rw [cw c1];rw [show iD (bK.size a0) a1=-1 from cw (by unfold bK.size;omega)];try rfl
 rw [cV c1,dx (by omega),bg]
 rw [call_eq (Z12.aj (a1:=(a1 - ((ah.size a0.aM:Nat):Int) - ((ah.size a0.bU:Nat):Int))) ⟨hs.2.2.1,by omega,by omega⟩)]
 unfold Z12.md
 by_cases c2:(a1 - ((ah.size a0.aM:Nat):Int) - ((ah.size a0.bU:Nat):Int))<((aH.size a0.dI:Nat):Int)
 ·rw [cw c2];rw [show iD (bK.size a0) a1=-1 from cw (by unfold bK.size;omega)];try rfl
 rw [cV c2,dx (by omega),bg]
 rw [call_eq (Z12.aj (a1:=(a1 - ((ah.size a0.aM:Nat):Int) - ((ah.size a0.bU:Nat):Int) - ((aH.size a0.dI:Nat):Int))) ⟨hs.2.2.2,by omega,by omega⟩)]
 unfold Z12.md
 by_cases c3:(a1 - ((ah.size a0.aM:Nat):Int) - ((ah.size a0.bU:Nat):Int) - ((aH.size a0.dI:Nat):Int))<((aH.size a0.cz:Nat):Int)
 ·rw [cw c3];rw [show iD (bK.size a0) a1=-1 from cw (by unfold bK.size;omega)];try rfl
 rw [cV c3,dx (by omega),bg]
 rw [show iD (bK.size a0) a1=a1 - ((ah.size a0.aM:Nat):Int) - ((ah.size a0.bU:Nat):Int) - ((aH.size a0.dI:Nat):Int) - ((aH.size a0.cz:Nat):Int) from by rw [cV (by unfold bK.size;omega)];unfold bK.size;omega]
def af:cC 214 aU:=W2 30 F mix aB bh (eM Z11.af Z12.af) Tryz.func214
end Z13
namespace Z14
def F (x0:bf)(x1:Int):aI:=(call (Z5.R (x0.aT,x1)) fun v1=>(cond (v1<0) (ret ((-1):Int)) (call (Z11.R (x0.aQ,v1)) fun v2=>(cond (v2<0) (ret ((-1):Int)) (call (Z12.R (x0.cZ,v2)) fun v3=>(cond (v3<0) (ret ((-1):Int)) (call (Z13.R (x0.dS,v3)) fun v4=>(cond (v4<0) (ret ((-1):Int)) (ret (v4:Int))))))))))
def md (a0:aq)(a1:Int):Int:=iD (aq.size a0) a1
def gd (a0:aq)(a1:Int):Prop:=(aq.Sm maxLen a0)/\0<=a1/\a1<=1048576
def R:=RR (p2 gd) (u2 md)
def aj {a0 a1}(h:gd a0 a1):R ((aq.r a0),a1)=some (md a0 a1):=cB h
def aU:=CN [.agg BT,pI] oI RT.dec R
def bh (a0)(a1)(hg:gd a0 a1):F (aq.r a0) a1=ret (md a0 a1):=by
 obtain ⟨hs,g0,g1⟩:=hg
 unfold md
 show (call (Z5.R ((a0.aT.map aa.row),a1)) fun v1=>(bif (decide (v1<0)) then ret ((-1):Int) else (call (Z11.R ((ah.r a0.aQ),v1)) fun v2=>(bif (decide (v2<0)) then ret ((-1):Int) else (call (Z12.R ((aH.r a0.cZ),v2)) fun v3=>(bif (decide (v3<0)) then ret ((-1):Int) else (call (Z13.R ((bK.r a0.dS),v3)) fun v4=>(cond (v4<0) (ret ((-1):Int)) (ret (v4:Int))))))))))=_
 rw [call_eq (Z5.aj (a1:=a1) ⟨hs.1,by omega,by omega⟩)]
 unfold Z5.md
 by_cases c0:a1<((eC (fun y:aa=>aa.size y) a0.aT:Nat):Int)
 ·rw [cw c0];rw [show iD (aq.size a0) a1=-1 from cw (by unfold aq.size;omega)];try rfl
 rw [cV c0,dx (by omega),bg]
 rw [call_eq (Z11.aj (a1:=(a1 - ((eC (fun y:aa=>aa.size y) a0.aT:Nat):Int))) ⟨hs.2.1,by omega,by omega⟩)]
 unfold Z11.md
 by_cases c1:(a1 - ((eC (fun y:aa=>aa.size y) a0.aT:Nat):Int))<((ah.size a0.aQ:Nat):Int)
 ·rw [cw c1];rw [show iD (aq.size a0) a1=-1 from cw (by unfold aq.size;omega)];try rfl
 rw [cV c1,dx (by omega),bg]
 rw [call_eq (Z12.aj (a1:=(a1 - ((eC (fun y:aa=>aa.size y) a0.aT:Nat):Int) - ((ah.size a0.aQ:Nat):Int))) ⟨hs.2.2.1,by omega,by omega⟩)]
 unfold Z12.md
 by_cases c2:(a1 - ((eC (fun y:aa=>aa.size y) a0.aT:Nat):Int) - ((ah.size a0.aQ:Nat):Int))<((aH.size a0.cZ:Nat):Int)
 ·rw [cw c2];rw [show iD (aq.size a0) a1=-1 from cw (by unfold aq.size;omega)];try rfl
 rw [cV c2,dx (by omega),bg]
 rw [call_eq (Z13.aj (a1:=(a1 - ((eC (fun y:aa=>aa.size y) a0.aT:Nat):Int) - ((ah.size a0.aQ:Nat):Int) - ((aH.size a0.cZ:Nat):Int))) ⟨hs.2.2.2,by omega,by omega⟩)]
 unfold Z13.md
 by_cases c3:(a1 - ((eC (fun y:aa=>aa.size y) a0.aT:Nat):Int) - ((ah.size a0.aQ:Nat):Int) - ((aH.size a0.cZ:Nat):Int))<((bK.size a0.dS:Nat):Int)
 ·rw [cw c3];rw [show iD (aq.size a0) a1=-1 from cw (by unfold aq.size;omega)];try rfl
 rw [cV c3,dx (by omega),bg]
 rw [show iD (aq.size a0) a1=a1 - ((eC (fun y:aa=>aa.size y) a0.aT:Nat):Int) - ((ah.size a0.aQ:Nat):Int) - ((aH.size a0.cZ:Nat):Int) - ((bK.size a0.dS:Nat):Int) from by rw [cV (by unfold aq.size;omega)];unfold aq.size;omega]
def af:cC 161 aU:=W2 30 F mix aB bh (kP Z5.af Z11.af Z12.af Z13.af) Tryz.func161
end Z14
namespace Z15
def F (x0:bZ)(x1:Int):aI:=(cond ((i64.wrap (x1 - x0.aV.size))<0) (ret ((-1):Int)) (call (Z14.R (x0.bS,(i64.wrap (x1 - x0.aV.size)))) fun v1=>(cond (v1<0) (ret ((-1):Int)) (ret v1))))
def md (a0:aA)(a1:Int):Int:=iD (aA.size a0) a1
def gd (a0:aA)(a1:Int):Prop:=(aA.Sm maxLen a0)/\0<=a1/\a1<=1048576
def R:=RR (p2 gd) (u2 md)
def aj {a0 a1}(h:gd a0 a1):R ((aA.r a0),a1)=some (md a0 a1):=cB h
def aU:=CN [.agg Bz,pI] oI RT.dec R
def bh (a0)(a1)(hg:gd a0 a1):F (aA.r a0) a1=ret (md a0 a1):=by
 obtain ⟨hs,g0,g1⟩:=hg
 unfold md
 show (bif (decide ((i64.wrap (a1 - (a0.aV.size:Int)))<0)) then ret ((-1):Int) else (call (Z14.R ((aq.r a0.bS),(i64.wrap (a1 - (a0.aV.size:Int))))) fun v1=>(cond (v1<0) (ret ((-1):Int)) (ret (v1:Int)))))=_
 rw [ng (left:=a1) (by omega) (by omega) hs.1]
 by_cases c0:a1 - ((a0.aV.size:Nat):Int)<0
 ·rw [decide_eq_true c0,aZ];rw [show iD (aA.size a0) a1=-1 from cw (by unfold aA.size;omega)];try rfl
 rw [decide_eq_false c0,bg]
 rw [call_eq (Z14.aj ⟨hs.2,by omega,by omega⟩)]
 unfold Z14.md
 by_cases c1:(a1 - ((a0.aV.size:Nat):Int))<((aq.size a0.bS:Nat):Int)
 ·rw [cw c1];rw [show iD (aA.size a0) a1=-1 from cw (by unfold aA.size;omega)];try rfl
 rw [cV c1,dx (by omega),bg]
 rw [show iD (aA.size a0) a1=a1 - ((a0.aV.size:Nat):Int) - ((aq.size a0.bS:Nat):Int) from by rw [cV (by unfold aA.size;omega)];unfold aA.size;omega]
def af:cC 110 aU:=W2 19 F mix aB bh (cJ Z14.af) Tryz.func110
end Z15
namespace Z16
inductive Pt where
 | p0 (a:aD) (b c:Int)
def cG:Pt->List V
 | .p0 a b c=>[.sl none 171 a,.int .i64 b,.int .i64 c]
def step (J:Pt->aI):Pt->aI
 | .p0 a b c=>(cond (c<(a.length:Int)) (m2 c (a.length:Int) (call (Z15.R ((bZ.at a (toNat c)),b)) fun v1=>(cond (v1<0) (ret ((-1):Int)) (J (.p0 a v1 (i64.wrap (c+1))))))) (ret (b:Int)))
def start (J:Pt->aI)(x0:aD)(x1:Int):aI:=(cond ((i64.wrap (x1 - (x0.length:Int)))<0) (ret ((-1):Int)) (J (.p0 x0 (i64.wrap (x1 - (x0.length:Int))) 0)))
def live:Nat->Live:=fL [(5,gA [0,1,5])]
def md (a0:List aA)(a1:Int):Int:=iD (eC (fun y:aA=>aA.size y) a0) a1
def gd (a0:List aA)(a1:Int):Prop:=(bO maxLen (fun y:aA=>aA.Sm maxLen y) a0)/\0<=a1/\a1<=1048576
def R:=RR (p2 gd) (u2 md)
def aj {a0 a1}(h:gd a0 a1):R ((a0.map aA.row),a1)=some (md a0 a1):=cB h
def aU:=CN [pL 171,pI] oI RT.dec R
def bh (a0)(a1)(hg:gd a0 a1):∃n,start (iter step n) (a0.map aA.row) a1=ret (md a0 a1):=by
 obtain ⟨hs,g0,g1⟩:=hg
 unfold start md
 simp only [List.length_map]
 refine oU (pt:=fun left i=>Pt.p0 (a0.map aA.row) left (i:Int)) (f:=fun y:aA=>aA.size y) hs.1 (fun J i h left p0 p1=>?_) (fun J left=>?_) g0 g1
 ·simp only [step,MM,List.length_map,aP h,aK,aZ,dw,aA.gJ h]
  rw [call_eq (Z15.aj ⟨hs.get h,p0,p1⟩),aJ h hs.1]
  unfold Z15.md
  by_cases hc:left<((aA.size (a0[i]):Nat):Int)
  ·rw [cw hc,if_pos hc];rfl
  ·rw [cV hc,if_neg hc,dx (by omega)];rfl
 ·simp only [step,List.length_map,fH,bg]
def af:cC 48 aU:=L2 27 (fun _=>5) cG (fun _=>[]) live step start mix aB bh (cJ Z15.af) Tryz.func48
end Z16
namespace Z17
def F (x0:cu)(x1:Int):aI:=(call (Z16.R (x0.aN,x1)) fun v1=>(cond (v1<0) (ret ((-1):Int)) (ret v1)))
def md (a0:aG)(a1:Int):Int:=iD (aG.size a0) a1
def gd (a0:aG)(a1:Int):Prop:=(aG.Sm maxLen a0)/\0<=a1/\a1<=1048576
def R:=RR (p2 gd) (u2 md)
def aj {a0 a1}(h:gd a0 a1):R ((aG.r a0),a1)=some (md a0 a1):=cB h
def aU:=CN [.agg C1,pI] oI RT.dec R
def bh (a0)(a1)(hg:gd a0 a1):F (aG.r a0) a1=ret (md a0 a1):=by
 obtain ⟨hs,g0,g1⟩:=hg
 unfold md
 show (call (Z16.R ((a0.aN.map aA.row),a1)) fun v1=>(cond (v1<0) (ret ((-1):Int)) (ret (v1:Int))))=_
 rw [call_eq (Z16.aj ⟨hs,by omega,by omega⟩)]
 unfold Z16.md
 by_cases c0:a1<((eC (fun y:aA=>aA.size y) a0.aN:Nat):Int)
 ·rw [cw c0];rw [show iD (aG.size a0) a1=-1 from cw (by unfold aG.size;omega)];try rfl
 rw [cV c0,dx (by omega),bg]
 rw [show iD (aG.size a0) a1=a1 - ((eC (fun y:aA=>aA.size y) a0.aN:Nat):Int) from by rw [cV (by unfold aG.size;omega)];unfold aG.size;omega]
def af:cC 9 aU:=W2 12 F mix aB bh (cJ Z16.af) Tryz.func9
end Z17
namespace Z18
inductive Pt where
 | p0 (a:aD) (b:Int) (c:aD)
def cG:Pt->List V
 | .p0 a b c=>[.sl none 3 a,.own 0,.int .i64 b]
def cX:Pt->List aW
 | .p0 a b c=>[.row 3 c]
def step (J:Pt->aI):Pt->aI
 | .p0 a b c=>(cond (b<(a.length:Int)) (m2 b (a.length:Int) (m2 b (c.length:Int) (J (.p0 a (i64.wrap (b+1)) (List.set c (toNat b) [L.int (jG a (toNat b))]))))) (ret (c:aD)))
def start (J:Pt->aI)(x0:aD):aI:=(cg ((0:Int)<=x0.length) (cg (x0.length<=(x0.length:Int)) (cg ((x0.length:Int)*8<=140737488355328) (J (.p0 x0 0 (List.replicate (toNat x0.length) [L.int 0]))))))
def live:Nat->Live:=fL [(3,gA [0,3,4])]
def md (a0:List Int):List Int:=a0
def gd (a0:List Int):Prop:=bO (2^36) (fun y:Int=>True) a0
def R:=RR gd md
def aj {a0}(h:gd a0):R (a0.map bk)=some (a0.map bk):=cT h
def aU:=CN [pL 3] (oL 3) RT.dec R
def bh (a0)(hg:gd a0):∃n,start (iter step n) (a0.map bk)=ret ((md a0).map bk):=by
 unfold start md
 simp only [List.length_map]
 refine lH (b:=8) (pt:=fun i c=>Pt.p0 (a0.map bk) (i:Int) c) (by have:=hg.1;simp at this;omega) (fun J i h c hc=>?_) (fun J c=>?_)
 ·simp only [step,MM,List.length_map,aP h,aK,aZ,dw,uB h,hc]
  rw [aJ (n:=a0.length) h (by have:=hg.1;simp only [maxLen];simp at this;omega)]
  rfl
 ·simp only [step,List.length_map,fH,bg]
def af:cC 278 aU:=L1 22 (fun _=>3) cG cX live step start mix aB bh .nil Tryz.func278
end Z18
namespace Z19
def F (x0:cN):aI:=(call (Z18.R x0.aN) fun v1=>ret ((⟨v1,x0.cH⟩):cN))
def md (a0:aO):aO:=a0
def gd (a0:aO):Prop:=aO.Sm (2^36) a0
def R:=RR gd md
def aj {a0}(h:gd a0):R (aO.r a0)=some (aO.r a0):=cT h
def aU:=CN [.agg BY] (.agg f173) RT.dec R
def bh (a0)(hg:gd a0):F (aO.r a0)=ret (aO.r (md a0)):=by
 show (call (Z18.R (a0.aN.map bk)) fun v1=>ret ((⟨v1,a0.cH⟩:cN):cN))=_
 rw [call_eq (Z18.aj hg)]
 rfl
def af:cC 276 aU:=W1 12 F mix aB bh (cJ Z18.af) Tryz.func276
end Z19
namespace Z20
def F (x0:dm):aI:=(call (Z19.R x0.bR) fun v1=>(call (Z19.R x0.bE) fun v2=>(call (Z19.R x0.bB) fun v3=>ret ((⟨x0.bw,x0.cM,x0.bI,x0.cL,x0.cF,x0.cA,x0.dy,x0.dR,v1,v2,x0.dB,v3,x0.bC⟩):dm))))
def md (a0:aE):aE:=a0
def gd (a0:aE):Prop:=aE.Sm (2^36) a0
def R:=RR gd md
def aj {a0}(h:gd a0):R (aE.r a0)=some (aE.r a0):=cT h
def aU:=CN [.agg BW] (.agg f175) RT.dec R
def bh (a0)(hg:gd a0):F (aE.r a0)=ret (aE.r (md a0)):=by
 show (call (Z19.R (aO.r a0.bR)) fun v1=>(call (Z19.R (aO.r a0.bE)) fun v2=>(call (Z19.R (aO.r a0.bB)) fun v3=>ret ((⟨a0.bw,a0.cM,a0.bI,a0.cL,a0.cF,a0.cA,a0.dy,a0.dR,v1,v2,a0.dB,v3,a0.bC⟩:dm):dm))))=_
 rw [call_eq (Z19.aj hg.1)]
 rw [call_eq (Z19.aj hg.2.1)]
 rw [call_eq (Z19.aj hg.2.2)]
 rfl
def af:cC 215 aU:=W1 47 F mix aB bh (cJ Z19.af) Tryz.func215
end Z20
namespace Z21
def F (x0:bn):aI:=ret x0
def md (a0:bn):bn:=a0
def gd (a0:bn):Prop:=bn.Sm (2^36) a0
def R:=RR gd md
def aj {a0}(h:gd a0):R a0=some a0:=cT h
def aU:=CN [.agg Cn] (.agg f227) RT.dec R
def bh (a0)(hg:gd a0):F a0=ret (md a0):=by
 rfl
def af:cC 277 aU:=W1 11 F mix aB bh .nil Tryz.func277
end Z21
namespace Z22
inductive Pt where
 | p0 (a:aD) (b:Int) (c:aD)
def cG:Pt->List V
 | .p0 a b c=>[.sl none 315 a,.own 0,.int .i64 b]
def cX:Pt->List aW
 | .p0 a b c=>[.row 227 c]
def step (J:Pt->aI):Pt->aI
 | .p0 a b c=>(cond (b<(a.length:Int)) (m2 b (a.length:Int) (call (Z21.R (bn.at a (toNat b))) fun v1=>(m2 b (c.length:Int) (J (.p0 a (i64.wrap (b+1)) (List.set c (toNat b) (bn.enc v1))))))) (ret (c:aD)))
def start (J:Pt->aI)(x0:aD):aI:=(cg ((0:Int)<=x0.length) (cg (x0.length<=(x0.length:Int)) (cg ((x0.length:Int)*16<=140737488355328) (J (.p0 x0 0 (List.replicate (toNat x0.length) [L.int 0,L.int 0]))))))
def live:Nat->Live:=fL [(3,gA [0,3,4])]
def md (a0:List bn):List bn:=a0
def gd (a0:List bn):Prop:=bO (2^36) (fun y:bn=>bn.Sm (2^36) y) a0
def R:=RR gd md
def aj {a0}(h:gd a0):R (a0.map bn.row)=some (a0.map bn.row):=cT h
def aU:=CN [pL 315] (oL 227) RT.dec R
def bh (a0)(hg:gd a0):∃n,start (iter step n) (a0.map bn.row)=ret ((md a0).map bn.row):=by
 unfold start md
 simp only [List.length_map]
 refine lH (b:=16) (pt:=fun i c=>Pt.p0 (a0.map bn.row) (i:Int) c) (by have:=hg.1;simp at this;omega) (fun J i h c hc=>?_) (fun J c=>?_)
 ·simp only [step,MM,List.length_map,aP h,aK,aZ,dw,bn.gJ h,hc]
  rw [call_eq (Z21.aj (hg.get h))]
  rw [aJ (n:=a0.length) h (by have:=hg.1;simp only [maxLen];simp at this;omega)]
  rfl
 ·simp only [step,List.length_map,fH,bg]
def af:cC 216 aU:=L1 23 (fun _=>3) cG cX live step start mix aB bh (cJ Z21.af) Tryz.func216
end Z22
namespace Z23
def F (x0:aY):aI:=(call (Z20.R x0.an) fun v1=>(call (Z22.R x0.cI) fun v2=>ret ((⟨v1,v2⟩):aY)))
def md (a0:aa):aa:=a0
def gd (a0:aa):Prop:=aa.Sm (2^36) a0
def R:=RR gd md
def aj {a0}(h:gd a0):R (aa.r a0)=some (aa.r a0):=cT h
def aU:=CN [.agg BV] (.agg f178) RT.dec R
def bh (a0)(hg:gd a0):F (aa.r a0)=ret (aa.r (md a0)):=by
 show (call (Z20.R (aE.r a0.an)) fun v1=>(call (Z22.R (a0.cI.map bn.row)) fun v2=>ret ((⟨v1,v2⟩:aY):aY)))=_
 rw [call_eq (Z20.aj hg.1)]
 rw [call_eq (Z22.aj hg.2)]
 rfl
def af:cC 162 aU:=W1 13 F mix aB bh (eM Z20.af Z22.af) Tryz.func162
end Z23
namespace Z24
inductive Pt where
 | p0 (a:aD) (b:Int) (c:aD)
def cG:Pt->List V
 | .p0 a b c=>[.sl none 160 a,.own 0,.int .i64 b]
def cX:Pt->List aW
 | .p0 a b c=>[.row 178 c]
def step (J:Pt->aI):Pt->aI
 | .p0 a b c=>(cond (b<(a.length:Int)) (m2 b (a.length:Int) (call (Z23.R (aY.at a (toNat b))) fun v1=>(m2 b (c.length:Int) (J (.p0 a (i64.wrap (b+1)) (List.set c (toNat b) (aY.enc v1))))))) (ret (c:aD)))
def start (J:Pt->aI)(x0:aD):aI:=(cg ((0:Int)<=(x0.length:Int)) (cg ((x0.length:Int)<=(x0.length:Int)) (cg ((x0.length:Int)*200<=140737488355328) (J (.p0 x0 0 (List.replicate (toNat (x0.length:Int)) [L.int 0,L.int 0,L.int 0,L.int 0,L.int 0,L.int 0,L.int 0,L.int 0,L.sl [],L.int 0,L.sl [],L.int 0,L.int 0,L.sl [],L.int 0,L.bool false,L.sl []]))))))
def live:Nat->Live:=fL [(3,gA [0,3,4])]
def md (a0:List aa):List aa:=a0
def gd (a0:List aa):Prop:=bO (2^36) (fun y:aa=>aa.Sm (2^36) y) a0
def R:=RR gd md
def aj {a0}(h:gd a0):R (a0.map aa.row)=some (a0.map aa.row):=cT h
def aU:=CN [pL 160] (oL 178) RT.dec R
def bh (a0)(hg:gd a0):∃n,start (iter step n) (a0.map aa.row)=ret ((md a0).map aa.row):=by
 unfold start md
 simp only [List.length_map]
 refine lH (b:=200) (pt:=fun i c=>Pt.p0 (a0.map aa.row) (i:Int) c) (by have:=hg.1;simp at this;omega) (fun J i h c hc=>?_) (fun J c=>?_)
 ·simp only [step,MM,List.length_map,aP h,aK,aZ,dw,aa.gJ h,hc]
  rw [call_eq (Z23.aj (hg.get h))]
  try simp only [hc,aP h,aZ]
  rw [aJ (n:=a0.length) h (by have:=hg.1;simp only [maxLen];simp at this;omega)]
  rfl
 ·simp only [step,List.length_map,fH,bg]
def af:cC 111 aU:=L1 23 (fun _=>3) cG cX live step start mix aB bh (cJ Z23.af) Tryz.func111
end Z24
namespace Z25
inductive Pt where
 | p0 (a:aD) (b:Int) (c:aD)
def cG:Pt->List V
 | .p0 a b c=>[.sl none 152 a,.own 0,.int .i64 b]
def cX:Pt->List aW
 | .p0 a b c=>[.row 120 c]
def step (J:Pt->aI):Pt->aI
 | .p0 a b c=>(cond (b<(a.length:Int)) (m2 b (a.length:Int) (call (Z24.R (qd a (toNat b))) fun v1=>(m2 b (c.length:Int) (J (.p0 a (i64.wrap (b+1)) (List.set c (toNat b) [L.sl v1])))))) (ret (c:aD)))
def start (J:Pt->aI)(x0:aD):aI:=(cg ((0:Int)<=(x0.length:Int)) (cg ((x0.length:Int)<=(x0.length:Int)) (cg ((x0.length:Int)*24<=140737488355328) (J (.p0 x0 0 (List.replicate (toNat (x0.length:Int)) [L.sl []]))))))
def live:Nat->Live:=fL [(3,gA [0,3,4])]
def md (a0:List (List aa)):List (List aa):=a0
def gd (a0:List (List aa)):Prop:=bO (2^36) (fun y:List aa=>bO (2^36) (fun y:aa=>aa.Sm (2^36) y) y) a0
def R:=RR gd md
def aj {a0}(h:gd a0):R (a0.map (eg aa.row))=some (a0.map (eg aa.row)):=cT h
def aU:=CN [pL 152] (oL 120) RT.dec R
def bh (a0)(hg:gd a0):∃n,start (iter step n) (a0.map (eg aa.row))=ret ((md a0).map (eg aa.row)):=by
 unfold start md
 simp only [List.length_map]
 refine lH (b:=24) (pt:=fun i c=>Pt.p0 (a0.map (eg aa.row)) (i:Int) c) (by have:=hg.1;simp at this;omega) (fun J i h c hc=>?_) (fun J c=>?_)
 ·simp only [step,MM,List.length_map,aP h,aK,aZ,dw,qR h,hc]
  rw [call_eq (Z24.aj (hg.get h))]
  try simp only [hc,aP h,aZ]
  rw [aJ (n:=a0.length) h (by have:=hg.1;simp only [maxLen];simp at this;omega)]
  rfl
 ·simp only [step,List.length_map,fH,bg]
def af:cC 49 aU:=L1 23 (fun _=>3) cG cX live step start mix aB bh (cJ Z24.af) Tryz.func49
end Z25
namespace Z26
def F (x0:bM):aI:=(call (Z23.R x0.aM) fun v1=>(call (Z23.R x0.fA) fun v2=>(call (Z23.R x0.fB) fun v3=>ret ((⟨v1,v2,v3⟩):bM))))
def md (a0:aF):aF:=a0
def gd (a0:aF):Prop:=aF.Sm (2^36) a0
def R:=RR gd md
def aj {a0}(h:gd a0):R (aF.r a0)=some (aF.r a0):=cT h
def aU:=CN [.agg B4] (.agg f180) RT.dec R
def bh (a0)(hg:gd a0):F (aF.r a0)=ret (aF.r (md a0)):=by
 show (call (Z23.R (aa.r a0.aM)) fun v1=>(call (Z23.R (aa.r a0.fA)) fun v2=>(call (Z23.R (aa.r a0.fB)) fun v3=>ret ((⟨v1,v2,v3⟩:bM):bM))))=_
 rw [call_eq (Z23.aj hg.1)]
 rw [call_eq (Z23.aj hg.2.1)]
 rw [call_eq (Z23.aj hg.2.2)]
 rfl
def af:cC 112 aU:=W1 17 F mix aB bh (cJ Z23.af) Tryz.func112
end Z26
namespace Z27
inductive Pt where
 | p0 (a:aD) (b:Int) (c:aD)
def cG:Pt->List V
 | .p0 a b c=>[.sl none 162 a,.own 0,.int .i64 b]
def cX:Pt->List aW
 | .p0 a b c=>[.row 180 c]
def step (J:Pt->aI):Pt->aI
 | .p0 a b c=>(cond (b<(a.length:Int)) (m2 b (a.length:Int) (call (Z26.R (bM.at a (toNat b))) fun v1=>(m2 b (c.length:Int) (J (.p0 a (i64.wrap (b+1)) (List.set c (toNat b) (bM.enc v1))))))) (ret (c:aD)))
def start (J:Pt->aI)(x0:aD):aI:=(cg ((0:Int)<=(x0.length:Int)) (cg ((x0.length:Int)<=(x0.length:Int)) (cg ((x0.length:Int)*600<=140737488355328) (J (.p0 x0 0 (List.replicate (toNat (x0.length:Int)) [L.int 0,L.int 0,L.int 0,L.int 0,L.int 0,L.int 0,L.int 0,L.int 0,L.sl [],L.int 0,L.sl [],L.int 0,L.int 0,L.sl [],L.int 0,L.bool false,L.sl [],L.int 0,L.int 0,L.int 0,L.int 0,L.int 0,L.int 0,L.int 0,L.int 0,L.sl [],L.int 0,L.sl [],L.int 0,L.int 0,L.sl [],L.int 0,L.bool false,L.sl [],L.int 0,L.int 0,L.int 0,L.int 0,L.int 0,L.int 0,L.int 0,L.int 0,L.sl [],L.int 0,L.sl [],L.int 0,L.int 0,L.sl [],L.int 0,L.bool false,L.sl []]))))))
def live:Nat->Live:=fL [(3,gA [0,3,4])]
def md (a0:List aF):List aF:=a0
def gd (a0:List aF):Prop:=bO (2^36) (fun y:aF=>aF.Sm (2^36) y) a0
def R:=RR gd md
def aj {a0}(h:gd a0):R (a0.map aF.row)=some (a0.map aF.row):=cT h
def aU:=CN [pL 162] (oL 180) RT.dec R
def bh (a0)(hg:gd a0):∃n,start (iter step n) (a0.map aF.row)=ret ((md a0).map aF.row):=by
 unfold start md
 simp only [List.length_map]
 refine lH (b:=600) (pt:=fun i c=>Pt.p0 (a0.map aF.row) (i:Int) c) (by have:=hg.1;simp at this;omega) (fun J i h c hc=>?_) (fun J c=>?_)
 ·simp only [step,MM,List.length_map,aP h,aK,aZ,dw,aF.gJ h,hc]
  rw [call_eq (Z26.aj (hg.get h))]
  try simp only [hc,aP h,aZ]
  rw [aJ (n:=a0.length) h (by have:=hg.1;simp only [maxLen];simp at this;omega)]
  rfl
 ·simp only [step,List.length_map,fH,bg]
def af:cC 50 aU:=L1 23 (fun _=>3) cG cX live step start mix aB bh (cJ Z26.af) Tryz.func50
end Z27
namespace Z28
def F (x0:bu):aI:=(call (Z25.R x0.aL) fun v1=>(call (Z27.R x0.bp) fun v2=>ret ((⟨v1,v2⟩):bu)))
def md (a0:av):av:=a0
def gd (a0:av):Prop:=av.Sm (2^36) a0
def R:=RR gd md
def aj {a0}(h:gd a0):R (av.r a0)=some (av.r a0):=cT h
def aU:=CN [.agg CW] (.agg f36) RT.dec R
def bh (a0)(hg:gd a0):F (av.r a0)=ret (av.r (md a0)):=by
 show (call (Z25.R (a0.aL.map (eg aa.row))) fun v1=>(call (Z27.R (a0.bp.map aF.row)) fun v2=>ret ((⟨v1,v2⟩:bu):bu)))=_
 rw [call_eq (Z25.aj hg.1)]
 rw [call_eq (Z27.aj hg.2)]
 rfl
def af:cC 12 aU:=W1 13 F mix aB bh (eM Z25.af Z27.af) Tryz.func12
end Z28
namespace Z29
inductive Pt where
 | p0 (a:aD) (b:Int) (c:aD)
def cG:Pt->List V
 | .p0 a b c=>[.sl none 9 a,.own 0,.int .i64 b]
def cX:Pt->List aW
 | .p0 a b c=>[.row 9 c]
def step (J:Pt->aI):Pt->aI
 | .p0 a b c=>(cond (b<(a.length:Int)) (m2 b (a.length:Int) (m2 b (c.length:Int) (J (.p0 a (i64.wrap (b+1)) (List.set c (toNat b) [L.str (qA a (toNat b))]))))) (ret (c:aD)))
def start (J:Pt->aI)(x0:aD):aI:=(cg ((0:Int)<=x0.length) (cg (x0.length<=(x0.length:Int)) (cg ((x0.length:Int)*16<=140737488355328) (J (.p0 x0 0 (List.replicate (toNat x0.length) [L.str ⟨#[]⟩]))))))
def live:Nat->Live:=fL [(3,gA [0,3,4])]
def md (a0:List aC):List aC:=a0
def gd (a0:List aC):Prop:=bO (2^36) (fun y:aC=>y.size<=(2^36)) a0
def R:=RR gd md
def aj {a0}(h:gd a0):R (a0.map cK)=some (a0.map cK):=cT h
def aU:=CN [pL 9] (oL 9) RT.dec R
def bh (a0)(hg:gd a0):∃n,start (iter step n) (a0.map cK)=ret ((md a0).map cK):=by
 unfold start md
 simp only [List.length_map]
 refine lH (b:=16) (pt:=fun i c=>Pt.p0 (a0.map cK) (i:Int) c) (by have:=hg.1;simp at this;omega) (fun J i h c hc=>?_) (fun J c=>?_)
 ·simp only [step,MM,List.length_map,aP h,aK,aZ,dw,qW h,hc]
  rw [aJ (n:=a0.length) h (by have:=hg.1;simp only [maxLen];simp at this;omega)]
  rfl
 ·simp only [step,List.length_map,fH,bg]
def af:cC 14 aU:=L1 22 (fun _=>3) cG cX live step start mix aB bh .nil Tryz.func14
end Z29
namespace Z30
def F (x0:bH):aI:=(call (Z29.R x0.bz) fun v1=>ret ((⟨x0.aV,x0.bI,x0.bX,v1⟩):bH))
def md (a0:ah):ah:=a0
def gd (a0:ah):Prop:=ah.Sm (2^36) a0
def R:=RR gd md
def aj {a0}(h:gd a0):R (ah.r a0)=some (ah.r a0):=cT h
def aU:=CN [.agg BC] (.agg f38) RT.dec R
def bh (a0)(hg:gd a0):F (ah.r a0)=ret (ah.r (md a0)):=by
 show (call (Z29.R (a0.bz.map cK)) fun v1=>ret ((⟨a0.aV,a0.bI,a0.bX,v1⟩:bH):bH))=_
 rw [call_eq (Z29.aj hg.2)]
 rfl
def af:cC 217 aU:=W1 18 F mix aB bh (cJ Z29.af) Tryz.func217
end Z30
namespace Z31
def F (x0:cS):aI:=(call (Z18.R x0.bz) fun v1=>ret ((⟨x0.eE,v1⟩):cS))
def md (a0:aH):aH:=a0
def gd (a0:aH):Prop:=aH.Sm (2^36) a0
def R:=RR gd md
def aj {a0}(h:gd a0):R (aH.r a0)=some (aH.r a0):=cT h
def aU:=CN [.agg BP] (.agg f122) RT.dec R
def bh (a0)(hg:gd a0):F (aH.r a0)=ret (aH.r (md a0)):=by
 show (call (Z18.R (a0.bz.map bk)) fun v1=>ret ((⟨a0.eE,v1⟩:cS):cS))=_
 rw [call_eq (Z18.aj hg)]
 rfl
def af:cC 218 aU:=W1 12 F mix aB bh (cJ Z18.af) Tryz.func218
end Z31
namespace Z32
def F (x0:eN):aI:=(call (Z30.R x0.aM) fun v1=>(call (Z30.R x0.bU) fun v2=>(call (Z31.R x0.dI) fun v3=>(call (Z31.R x0.cz) fun v4=>ret ((⟨x0.eE,v1,v2,v3,v4⟩):eN)))))
def md (a0:bK):bK:=a0
def gd (a0:bK):Prop:=bK.Sm (2^36) a0
def R:=RR gd md
def aj {a0}(h:gd a0):R (bK.r a0)=some (bK.r a0):=cT h
def aU:=CN [.agg B9] (.agg f124) RT.dec R
def bh (a0)(hg:gd a0):F (bK.r a0)=ret (bK.r (md a0)):=by
 show (call (Z30.R (ah.r a0.aM)) fun v1=>(call (Z30.R (ah.r a0.bU)) fun v2=>(call (Z31.R (aH.r a0.dI)) fun v3=>(call (Z31.R (aH.r a0.cz)) fun v4=>ret ((⟨a0.eE,v1,v2,v3,v4⟩:eN):eN)))))=_
 rw [call_eq (Z30.aj hg.1)]
 rw [call_eq (Z30.aj hg.2.1)]
 rw [call_eq (Z31.aj hg.2.2.1)]
 rw [call_eq (Z31.aj hg.2.2.2)]
 rfl
def af:cC 219 aU:=W1 24 F mix aB bh (eM Z30.af Z31.af) Tryz.func219
end Z32
namespace Z33
def F (x0:bf):aI:=(call (Z24.R x0.aT) fun v1=>(call (Z30.R x0.aQ) fun v2=>(call (Z31.R x0.cZ) fun v3=>(call (Z32.R x0.dS) fun v4=>ret ((⟨v1,x0.bY,v2,v3,v4⟩):bf)))))
def md (a0:aq):aq:=a0
def gd (a0:aq):Prop:=aq.Sm (2^36) a0
def R:=RR gd md
def aj {a0}(h:gd a0):R (aq.r a0)=some (aq.r a0):=cT h
def aU:=CN [.agg BT] (.agg f126) RT.dec R
def bh (a0)(hg:gd a0):F (aq.r a0)=ret (aq.r (md a0)):=by
 show (call (Z24.R (a0.aT.map aa.row)) fun v1=>(call (Z30.R (ah.r a0.aQ)) fun v2=>(call (Z31.R (aH.r a0.cZ)) fun v3=>(call (Z32.R (bK.r a0.dS)) fun v4=>ret ((⟨v1,a0.bY,v2,v3,v4⟩:bf):bf)))))=_
 rw [call_eq (Z24.aj hg.1)]
 rw [call_eq (Z30.aj hg.2.1)]
 rw [call_eq (Z31.aj hg.2.2.1)]
 rw [call_eq (Z32.aj hg.2.2.2)]
 rfl
def af:cC 163 aU:=W1 24 F mix aB bh (kP Z24.af Z30.af Z31.af Z32.af) Tryz.func163
end Z33
namespace Z34
def F (x0:bZ):aI:=(call (Z33.R x0.bS) fun v1=>ret ((⟨x0.bw,x0.aV,v1⟩):bZ))
def md (a0:aA):aA:=a0
def gd (a0:aA):Prop:=aA.Sm (2^36) a0
def R:=RR gd md
def aj {a0}(h:gd a0):R (aA.r a0)=some (aA.r a0):=cT h
def aU:=CN [.agg Bz] (.agg f148) RT.dec R
def bh (a0)(hg:gd a0):F (aA.r a0)=ret (aA.r (md a0)):=by
 show (call (Z33.R (aq.r a0.bS)) fun v1=>ret ((⟨a0.bw,a0.aV,v1⟩:bZ):bZ))=_
 rw [call_eq (Z33.aj hg.2)]
 rfl
def af:cC 113 aU:=W1 15 F mix aB bh (cJ Z33.af) Tryz.func113
end Z34
namespace Z35
inductive Pt where
 | p0 (a:aD) (b:Int) (c:aD)
def cG:Pt->List V
 | .p0 a b c=>[.sl none 171 a,.own 0,.int .i64 b]
def cX:Pt->List aW
 | .p0 a b c=>[.row 148 c]
def step (J:Pt->aI):Pt->aI
 | .p0 a b c=>(cond (b<(a.length:Int)) (m2 b (a.length:Int) (call (Z34.R (bZ.at a (toNat b))) fun v1=>(m2 b (c.length:Int) (J (.p0 a (i64.wrap (b+1)) (List.set c (toNat b) (bZ.enc v1))))))) (ret (c:aD)))
def start (J:Pt->aI)(x0:aD):aI:=(cg ((0:Int)<=(x0.length:Int)) (cg ((x0.length:Int)<=(x0.length:Int)) (cg ((x0.length:Int)*328<=140737488355328) (J (.p0 x0 0 (List.replicate (toNat (x0.length:Int)) [L.int 0,L.str ⟨#[]⟩,L.sl [],L.bool false,L.str ⟨#[]⟩,L.int 0,L.int 0,L.sl [],L.int 0,L.sl [],L.int 0,L.str ⟨#[]⟩,L.int 0,L.int 0,L.sl [],L.str ⟨#[]⟩,L.int 0,L.int 0,L.sl [],L.int 0,L.sl [],L.int 0,L.sl []]))))))
def live:Nat->Live:=fL [(3,gA [0,3,4])]
def md (a0:List aA):List aA:=a0
def gd (a0:List aA):Prop:=bO (2^36) (fun y:aA=>aA.Sm (2^36) y) a0
def R:=RR gd md
def aj {a0}(h:gd a0):R (a0.map aA.row)=some (a0.map aA.row):=cT h
def aU:=CN [pL 171] (oL 148) RT.dec R
def bh (a0)(hg:gd a0):∃n,start (iter step n) (a0.map aA.row)=ret ((md a0).map aA.row):=by
 unfold start md
 simp only [List.length_map]
 refine lH (b:=328) (pt:=fun i c=>Pt.p0 (a0.map aA.row) (i:Int) c) (by have:=hg.1;simp at this;omega) (fun J i h c hc=>?_) (fun J c=>?_)
 ·simp only [step,MM,List.length_map,aP h,aK,aZ,dw,aA.gJ h,hc]
  rw [call_eq (Z34.aj (hg.get h))]
  try simp only [hc,aP h,aZ]
  rw [aJ (n:=a0.length) h (by have:=hg.1;simp only [maxLen];simp at this;omega)]
  rfl
 ·simp only [step,List.length_map,fH,bg]
def af:cC 51 aU:=L1 23 (fun _=>3) cG cX live step start mix aB bh (cJ Z34.af) Tryz.func51
end Z35
namespace Z36
def F (x0:cu):aI:=(call (Z35.R x0.aN) fun v1=>ret ((⟨v1⟩):cu))
def md (a0:aG):aG:=a0
def gd (a0:aG):Prop:=aG.Sm (2^36) a0
def R:=RR gd md
def aj {a0}(h:gd a0):R (aG.r a0)=some (aG.r a0):=cT h
def aU:=CN [.agg C1] (.agg f46) RT.dec R
def bh (a0)(hg:gd a0):F (aG.r a0)=ret (aG.r (md a0)):=by
 show (call (Z35.R (a0.aN.map aA.row)) fun v1=>ret ((⟨v1⟩:cu):cu))=_
 rw [call_eq (Z35.aj hg)]
 rfl
def af:cC 13 aU:=W1 9 F mix aB bh (cJ Z35.af) Tryz.func13
end Z36
namespace Z37
def F (x0:cN):aI:=(cg (eX (x0.aN.length*8)) (ret x0))
def md (a0:aO):aO:=a0
def gd (a0:aO):Prop:=(aO.Sm (2^21) a0)
def R:=RR gd md
def aj {a0}(h:gd a0):R (aO.r a0)=some (aO.r a0):=cT h
def aU:=CN [.agg jw] (.agg f173) RT.dec R
def bh (a0)(H0:gd a0):F (aO.r a0)=ret (aO.r (md a0)):=by
 unfold F md
 simp only [SS]
 exact ak (have:=(H0).1;lm) fz
def af:cC 235 aU:=W1 10 F mix aB bh .nil Tryz.func235
end Z37
namespace Z38
def F (x0:dm):aI:=(call (Z37.R x0.bR) fun v1=>(call (Z37.R x0.bE) fun v2=>(call (Z37.R x0.bB) fun v3=>ret ((⟨x0.bw,x0.cM,x0.bI,x0.cL,x0.cF,x0.cA,x0.dy,x0.dR,v1,v2,x0.dB,v3,x0.bC⟩):dm))))
def md (a0:aE):aE:=a0
def gd (a0:aE):Prop:=(aE.Sm (2^21) a0)
def R:=RR gd md
def aj {a0}(h:gd a0):R (aE.r a0)=some (aE.r a0):=cT h
def aU:=CN [.agg gB] (.agg f175) RT.dec R
def bh (a0)(H0:gd a0):F (aE.r a0)=ret (aE.r (md a0)):=by
 refine ct (Z37.aj H0.1) (ct (Z37.aj H0.2.1) ?_)
 exact ct (Z37.aj H0.2.2) fz
def af:cC 179 aU:=W1 18 F mix aB bh (cJ Z37.af) Tryz.func179
end Z38
namespace Z39
def F (x0:aY):aI:=(call (Z38.R x0.an) fun v1=>(cg (eX (x0.cI.length*16)) (ret ((⟨v1,x0.cI⟩):aY))))
def md (a0:aa):aa:=a0
def gd (a0:aa):Prop:=(aa.Sm (2^21) a0)
def R:=RR gd md
def aj {a0}(h:gd a0):R (aa.r a0)=some (aa.r a0):=cT h
def aU:=CN [.agg lB] (.agg f178) RT.dec R
def bh (a0)(H0:gd a0):F (aa.r a0)=ret (aa.r (md a0)):=by
 refine ct (Z38.aj H0.1) ?_
 simp only [SS]
 exact ak (have:=(H0.2).1;lm) fz
def af:cC 173 aU:=W1 11 F mix aB bh (cJ Z38.af) Tryz.func173
end Z39
namespace Z40
inductive Pt where
 | p0 (a:aD) (b:Int) (c:aD)
def cG:Pt->List V
 | .p0 a b c=>[.sl none 178 a,.own 0,.int .i64 b]
def cX:Pt->List aW
 | .p0 a b c=>[.row 178 c]
def step (J:Pt->aI):Pt->aI
 | .p0 a b c=>(cond (b<(a.length:Int)) (m2 b (a.length:Int) (call (Z39.R (aY.at a (toNat b))) fun v1=>(cg (eX (((c.length:Int)+1)*200)) (J (.p0 a (i64.wrap (b+1)) (c++[(aY.enc v1)])))))) (ret (c:aD)))
def start (J:Pt->aI)(x0:aD):aI:=J (.p0 x0 0 [])
def live:Nat->Live:=fL [(3,[(0,none),(3,some 178),(4,none)])]
def md (a0:List aa):List aa:=a0
def gd (a0:List aa):Prop:=(bO (2^21) (fun y:aa=>aa.Sm (2^21) y) a0)
def R:=RR gd md
def aj {a0}(h:gd a0):R (a0.map aa.row)=some (a0.map aa.row):=cT h
def aU:=CN [pL 178] (oL 178) RT.dec R
def bh (a0)(hg:gd a0):∃n,start (iter step n) (a0.map aa.row)=ret ((md a0).map aa.row):=by
 unfold gd at hg
 have H0:=hg
 unfold start md
 try simp only [SS]
 have Bh2:a0.length<=maxLen:=(by
   have:=(H0).1
   try simp only [maxLen] at *
   omega)
 refine ex_eq (out:=(fun b:List aa=>ret ((b.map aa.row):aD))) (gQ (xs:=a0) (z:=aa.zero) (t:=fun s3:List aa=>s3)) ?_
 refine dW (p:=Pt.p0 (a0.map aa.row) 0 ([].map aa.row)) fz ?_
 refine cq (pt:=fun (i1:Nat) (s3:List aa)=>Pt.p0 (a0.map aa.row) (i1:Int) (s3.map aa.row)) (s:=([]:List aa)) (out:=(fun b:List aa=>ret ((b.map aa.row):aD))) (fun (i1:Nat) (s3:List aa)=>s3.length<=([]:List Int).length+1*i1) (fun J i1 s3 h2 hih2=>?_) (fun s3 hih2=>?_) (by simp)
 ·simp only [step,SS]
  have gr_:=hih2
  try simp only [LN] at gr_
  have bb_:=Bh2
  simp only [maxLen] at bb_
  have:=(H0).1
  refine bq.yes (by apply decide_eq_true;omega) ?_
  refine bq.yes aK ?_
  refine bq.yes (aP h2) ?_
  refine cr (Z39.aj (bO.getD (z:=aa.zero) H0 h2)) ?_
  try simp only [SS]
  refine bq.yes lm ?_
  refine bq.inl (by
    have g_:=hih2
    try simp only [LN] at g_ ⊢
    first | omega | (simp;done) | (simp;omega)) ?_
  rw [aJ h2 Bh2]
  all_goals exact fz
 ·simp only [step,SS]
  have gr_:=hih2
  try simp only [LN] at gr_
  have:=(H0).1
  refine dH (by apply decide_eq_false;omega) ?_
  refine ⟨0,?_⟩
  all_goals exact fz
def af:cC 132 aU:=L1 21 (fun _=>3) cG cX live step start mix aB bh (cJ Z39.af) Tryz.func132
end Z40
namespace Z41
def F (x0:bM):aI:=(call (Z39.R x0.aM) fun v1=>(call (Z39.R x0.fA) fun v2=>(call (Z39.R x0.fB) fun v3=>ret ((⟨v1,v2,v3⟩):bM))))
def md (a0:aF):aF:=a0
def gd (a0:aF):Prop:=(aF.Sm (2^21) a0)
def R:=RR gd md
def aj {a0}(h:gd a0):R (aF.r a0)=some (aF.r a0):=cT h
def aU:=CN [.agg uA] (.agg f180) RT.dec R
def bh (a0)(H0:gd a0):F (aF.r a0)=ret (aF.r (md a0)):=by
 refine ct (Z39.aj H0.1) (ct (Z39.aj H0.2.1) ?_)
 exact ct (Z39.aj H0.2.2) fz
def af:cC 133 aU:=W1 13 F mix aB bh (cJ Z39.af) Tryz.func133
end Z41
namespace Z42
inductive Pt where
 | p0 (a:Int) (b:bu) (c:aD)
 | p1 (a:Int) (b:bu) (c d:aD)
def pid:Pt->Nat
 | .p0 ..=>3
 | .p1 ..=>7
def cG:Pt->List V
 | .p0 a b c=>[.cD 0 0,.cD 1 0,.cD 2 0,.int .i64 a,.cD 2 0]
 | .p1 a b c d=>[.cD 0 0,.cD 1 0,.cD 2 0,.int .i64 a,.cD 2 0,.cD 2 0]
def cX:Pt->List aW
 | .p0 a b c=>[.box [.sl none 120 b.aL,.sl none 180 b.bp],.box [.nil,.nil],.box [.own 3,.nil],.row 120 c]
 | .p1 a b c d=>[.box [.sl none 120 b.aL,.sl none 180 b.bp],.box [.nil,.nil],.box [.own 3,.own 4],.row 120 c,.row 180 d]
def step (J:Pt->aI):Pt->aI
 | .p0 a b c=>(cond (a<(b.aL.length:Int)) (m2 a (b.aL.length:Int) (call (Z40.R (qd b.aL (toNat a))) fun v1=>(cg (eX (((c.length:Int)+1)*24)) (J (.p0 (i64.wrap (a+1)) b (c++[[L.sl v1]])))))) (J (.p1 0 b c [])))
 | .p1 a b c d=>(cond (a<(b.bp.length:Int)) (m2 a (b.bp.length:Int) (call (Z41.R (bM.at b.bp (toNat a))) fun v1=>(cg (eX (((d.length:Int)+1)*600)) (J (.p1 (i64.wrap (a+1)) b c (d++[(bM.enc v1)])))))) (ret ((⟨c,d⟩:bu):bu)))
def start (J:Pt->aI)(x0:bu):aI:=J (.p0 0 x0 [])
def live:Nat->Live:=fL [(3,[(1,none),(2,none),(3,none),(4,none),(3,some 120)]),(7,[(1,none),(2,none),(3,none),(5,none),(3,some 120),(3,some 1048756)])]
def md (a0:av):av:=a0
def gd (a0:av):Prop:=(av.Sm (2^21) a0)
def R:=RR gd md
def aj {a0}(h:gd a0):R (av.r a0)=some (av.r a0):=cT h
def aU:=CN [.agg uY] (.agg f36) RT.dec R
def bh (a0)(H0:gd a0):∃n,start (iter step n) (av.r a0)=ret (av.r (md a0)):=by
 have Bh2:=bl H0.1
 refine ex_eq (out:=(fun b:av=>ret ((av.r b):bu))) (gQ (xs:=a0.aL) (z:=[]) (t:=fun s3:List (List aa)=>(⟨s3,a0.bp⟩:av))) (dW fz ?_)
 refine cq (pt:=fun (i1:Nat) (s3:List (List aa))=>Pt.p0 (i1:Int) (av.r a0) (s3.map (eg aa.row))) (s:=([]:List (List aa))) (out:=(fun b:av=>ret ((av.r b):bu))) (fun (i1:Nat) (s3:List (List aa))=>s3.length<=([]:List Int).length+1*i1) (fun J i1 s3 h2 hih2=>?_) (fun s3 hih2=>?_) (by simp)
 ·simp only [step,SS]
  have gr_:=hih2
  simp only [LN] at gr_
  have:=(H0.1).1
  refine bq.yes dt (bq.yes aK ?_)
  refine bq.yes (aP h2) (cr (Z40.aj (bO.getD H0.1 h2)) ?_)
  refine bq.yes lm ?_
  refine bq.inl (by
    (simp;omega)) ?_
  rw [aJ h2 Bh2]
  exact fz
 ·simp only [step,SS]
  refine dH dn ?_
  have Bh5:=bl H0.2
  refine ex_eq (out:=(fun b:av=>ret ((av.r b):bu))) (gQ (xs:=a0.bp) (z:=aF.zero) (t:=fun s6:List aF=>(⟨s3,s6⟩:av))) (dW fz ?_)
  refine cq (pt:=fun (i4:Nat) (s6:List aF)=>Pt.p1 (i4:Int) (av.r a0) (s3.map (eg aa.row)) (s6.map aF.row)) (s:=([]:List aF)) (out:=(fun b:av=>ret ((av.r b):bu))) (fun (i4:Nat) (s6:List aF)=>s6.length<=([]:List Int).length+1*i4) (fun J i4 s6 h5 hih5=>?_) (fun s6 hih5=>?_) (by simp)
  ·simp only [step,SS]
   have gr_:=hih5
   simp only [LN] at gr_
   have:=(H0.2).1
   refine bq.yes dt (bq.yes aK ?_)
   refine bq.yes (aP h5) (cr (Z41.aj (bO.getD H0.2 h5)) ?_)
   refine bq.yes lm ?_
   refine bq.inl (by
     (simp;omega)) ?_
   rw [aJ h5 Bh5]
   exact fz
  ·simp only [step,SS]
   refine dH dn (⟨0,?_⟩)
   exact fz
def af:cC 83 aU:=L1 44 pid cG cX live step start mix aB bh (eM Z40.af Z41.af) Tryz.func83
end Z42
namespace Z43
def F (x0:aD):aI:=(cg (eX (x0.length*16)) (ret (x0:aD)))
def md (a0:List aC):List aC:=a0
def gd (a0:List aC):Prop:=(bO (2^21) (fun y:aC=>y.size<=(2^21)) a0)
def R:=RR gd md
def aj {a0}(h:gd a0):R (a0.map cK)=some (a0.map cK):=cT h
def aU:=CN [pL 9] (oL 9) RT.dec R
def bh (a0)(H0:gd a0):F (a0.map cK)=ret ((md a0).map cK):=ak (have:=(H0).1;lm) fz
def af:cC 86 aU:=W1 6 F mix aB bh .nil Tryz.func86
end Z43
namespace Z44
def F (x0:bH):aI:=(call (Z43.R x0.bz) fun v1=>ret ((⟨x0.aV,x0.bI,x0.bX,v1⟩):bH))
def md (a0:ah):ah:=a0
def gd (a0:ah):Prop:=(ah.Sm (2^21) a0)
def R:=RR gd md
def aj {a0}(h:gd a0):R (ah.r a0)=some (ah.r a0):=cT h
def aU:=CN [.agg sX] (.agg f38) RT.dec R
def bh (a0)(H0:gd a0):F (ah.r a0)=ret (ah.r (md a0)):=ct (Z43.aj H0.2) fz
def af:cC 140 aU:=W1 13 F mix aB bh (cJ Z43.af) Tryz.func140
end Z44
namespace Z45
def F (x0:cS):aI:=(cg (eX (x0.bz.length*8)) (ret x0))
def md (a0:aH):aH:=a0
def gd (a0:aH):Prop:=(aH.Sm (2^21) a0)
def R:=RR gd md
def aj {a0}(h:gd a0):R (aH.r a0)=some (aH.r a0):=cT h
def aU:=CN [.agg oT] (.agg f122) RT.dec R
def bh (a0)(H0:gd a0):F (aH.r a0)=ret (aH.r (md a0)):=by
 unfold F md
 simp only [SS]
 exact ak (have:=(H0).1;lm) fz
def af:cC 174 aU:=W1 10 F mix aB bh .nil Tryz.func174
end Z45
namespace Z46
def F (x0:eN):aI:=(call (Z44.R x0.aM) fun v1=>(call (Z44.R x0.bU) fun v2=>(call (Z45.R x0.dI) fun v3=>(call (Z45.R x0.cz) fun v4=>ret ((⟨x0.eE,v1,v2,v3,v4⟩):eN)))))
def md (a0:bK):bK:=a0
def gd (a0:bK):Prop:=(bK.Sm (2^21) a0)
def R:=RR gd md
def aj {a0}(h:gd a0):R (bK.r a0)=some (bK.r a0):=cT h
def aU:=CN [.agg rP] (.agg f124) RT.dec R
def bh (a0)(H0:gd a0):F (bK.r a0)=ret (bK.r (md a0)):=by
 refine ct (Z44.aj H0.1) (ct (Z44.aj H0.2.1) ?_)
 refine ct (Z45.aj H0.2.2.1) (ct (Z45.aj H0.2.2.2) ?_)
 exact fz
def af:cC 175 aU:=W1 18 F mix aB bh (eM Z44.af Z45.af) Tryz.func175
end Z46
namespace Z47
def F (x0:bf):aI:=(call (Z40.R x0.aT) fun v1=>(call (Z44.R x0.aQ) fun v2=>(call (Z45.R x0.cZ) fun v3=>(call (Z46.R x0.dS) fun v4=>ret ((⟨v1,x0.bY,v2,v3,v4⟩):bf)))))
def md (a0:aq):aq:=a0
def gd (a0:aq):Prop:=(aq.Sm (2^21) a0)
def R:=RR gd md
def aj {a0}(h:gd a0):R (aq.r a0)=some (aq.r a0):=cT h
def aU:=CN [.agg sJ] (.agg f126) RT.dec R
def bh (a0)(H0:gd a0):F (aq.r a0)=ret (aq.r (md a0)):=by
 refine ct (Z40.aj H0.1) (ct (Z44.aj H0.2.1) ?_)
 refine ct (Z45.aj H0.2.2.1) (ct (Z46.aj H0.2.2.2) ?_)
 exact fz
def af:cC 134 aU:=W1 18 F mix aB bh (kP Z40.af Z44.af Z45.af Z46.af) Tryz.func134
end Z47
namespace Z48
inductive Pt where
 | p0 (a:Int) (b:cu) (c:aD)
def cG:Pt->List V
 | .p0 a b c=>[.cD 0 0,.cD 1 0,.cD 2 0,.int .i64 a,.cD 2 0]
def cX:Pt->List aW
 | .p0 a b c=>[.box [.sl none 148 b.aN],.box [.nil],.box [.own 3],.row 148 c]
def step (J:Pt->aI):Pt->aI
 | .p0 a b c=>(cond (a<(b.aN.length:Int)) (m2 a (b.aN.length:Int) (m2 a (b.aN.length:Int) (m2 a (b.aN.length:Int) (call (Z47.R ((bZ.at b.aN (toNat a)).bS)) fun v1=>(cg (eX (((c.length:Int)+1)*328)) (J (.p0 (i64.wrap (a+1)) b (c++[(bZ.enc (⟨(bZ.at b.aN (toNat a)).bw,(bZ.at b.aN (toNat a)).aV,v1⟩:bZ))])))))))) (ret ((⟨c⟩:cu):cu)))
def start (J:Pt->aI)(x0:cu):aI:=J (.p0 0 x0 [])
def live:Nat->Live:=fL [(3,[(1,none),(2,none),(3,none),(4,none),(3,some 148)])]
def md (a0:aG):aG:=a0
def gd (a0:aG):Prop:=(aG.Sm (2^21) a0)
def R:=RR gd md
def aj {a0}(h:gd a0):R (aG.r a0)=some (aG.r a0):=cT h
def aU:=CN [.agg xV] (.agg f46) RT.dec R
def bh (a0)(hg:gd a0):∃n,start (iter step n) (aG.r a0)=ret (aG.r (md a0)):=by
 unfold gd at hg
 have H0:=hg
 unfold start md
 try simp only [SS]
 have Bh2:a0.aN.length<=maxLen:=(by
   have:=(H0).1
   try simp only [maxLen] at *
   omega)
 refine ex_eq (out:=(fun b:aG=>ret ((aG.r b):cu))) (gQ (xs:=a0.aN) (z:=aA.zero) (t:=fun s3:List aA=>(⟨s3⟩:aG))) ?_
 refine dW (p:=Pt.p0 0 (aG.r a0) ([].map aA.row)) fz ?_
 refine cq (pt:=fun (i1:Nat) (s3:List aA)=>Pt.p0 (i1:Int) (aG.r a0) (s3.map aA.row)) (s:=([]:List aA)) (out:=(fun b:aG=>ret ((aG.r b):cu))) (fun (i1:Nat) (s3:List aA)=>s3.length<=([]:List Int).length+1*i1) (fun J i1 s3 h2 hih2=>?_) (fun s3 hih2=>?_) (by simp)
 ·simp only [step,SS]
  have gr_:=hih2
  try simp only [LN] at gr_
  have bb_:=Bh2
  simp only [maxLen] at bb_
  have:=(H0).1
  refine bq.yes (by apply decide_eq_true;omega) ?_
  refine bq.yes aK ?_
  refine bq.yes (aP h2) ?_
  refine bq.yes aK ?_
  refine bq.yes (aP h2) ?_
  refine bq.yes aK ?_
  refine bq.yes (aP h2) ?_
  refine cr (Z47.aj (bO.getD (z:=aA.zero) H0 h2).2) ?_
  try simp only [SS]
  refine bq.yes lm ?_
  refine bq.inl (by
    have g_:=hih2
    try simp only [LN] at g_ ⊢
    first | omega | (simp;done) | (simp;omega)) ?_
  rw [aJ h2 Bh2]
  all_goals exact fz
 ·simp only [step,SS]
  have gr_:=hih2
  try simp only [LN] at gr_
  have:=(H0).1
  refine dH (by apply decide_eq_false;omega) ?_
  refine ⟨0,?_⟩
  all_goals exact fz
def af:cC 84 aU:=L1 39 (fun _=>3) cG cX live step start mix aB bh (cJ Z47.af) Tryz.func84
end Z48
namespace Z49
def F (x0 x1 x2:Int):aI:=(cond (x0>=x1) (ret ((decide (x0<=x2)))) (ret false))
def md (a0 a1 a2:Int):Bool:=(cond (a0>=a1) ((decide (a0<=a2))) false)
def gd (a0 a1 a2:Int):Prop:=True
def R:=RR (p3 gd) (u3 md)
def aj {a0 a1 a2}(h:gd a0 a1 a2):R (a0,a1,a2)=some (md a0 a1 a2):=kN h
def aU:=CN [pI,pI,pI] oB RT.dec R
def bh (a0)(a1)(a2)(hg:gd a0 a1 a2):F a0 a1 a2=ret (md a0 a1 a2):=by
 refine bs (fun c1=>?_) (fun _=>rfl)
 exact fz
def af:cC 124 aU:=W3 15 F mix aB bh .nil Tryz.func124
end Z49
namespace Z50
inductive Pt where
 | p0 (a:aC) (b:Int)
def cG:Pt->List V
 | .p0 a b=>[.str a,.int .i64 b]
def step (J:Pt->aI):Pt->aI
 | .p0 a b=>(cond (b<(a.size:Int)) (m2 b (a.size:Int) (cond ((eK a (toNat b))<97) (m2 b (a.size:Int) (cond ((eK a (toNat b))<48) (m2 b (a.size:Int) (cond ((eK a (toNat b)) != 45) bT (J (.p0 a (i64.wrap (b+1)))))) (m2 b (a.size:Int) (cond ((eK a (toNat b))>57) (m2 b (a.size:Int) (cond ((eK a (toNat b)) != 45) bT (J (.p0 a (i64.wrap (b+1)))))) (J (.p0 a (i64.wrap (b+1)))))))) (m2 b (a.size:Int) (cond ((eK a (toNat b))>122) (m2 b (a.size:Int) (cond ((eK a (toNat b))<48) (m2 b (a.size:Int) (cond ((eK a (toNat b)) != 45) bT (J (.p0 a (i64.wrap (b+1)))))) (m2 b (a.size:Int) (cond ((eK a (toNat b))>57) (m2 b (a.size:Int) (cond ((eK a (toNat b)) != 45) bT (J (.p0 a (i64.wrap (b+1)))))) (J (.p0 a (i64.wrap (b+1)))))))) (J (.p0 a (i64.wrap (b+1)))))))) gf)
def start (J:Pt->aI)(x0:aC):aI:=(call (Z49.R (x0.size,1,8)) fun v1=>(cond (!v1) (ret false) (cg ((0:Int)<x0.size) (cond ((eK x0 0)==45) (ret false) (cg ((0:Int)<=(i64.wrap (x0.size - 1))) (cg ((i64.wrap (x0.size - 1))<x0.size) (cond ((eK x0 (toNat (i64.wrap (x0.size - 1))))==45) (ret false) (J (.p0 x0 0)))))))))
def live:Nat->Live:=fL [(4,gA [0,3])]
def md (a0:aC):Bool:=(bif (!(Z49.md a0.size 1 8)) then false else (bif ((eK a0 0)==45) then false else (bif ((eK a0 (toNat (i64.wrap (a0.size - 1))))==45) then false else (eL (S:=Unit) (β:=Bool) (fun i4 s6=>(cond ((eK a0 i4)<97) (cond ((eK a0 i4)<48) (cond ((eK a0 i4) != 45) (.inr false) (.inl ())) (cond ((eK a0 i4)>57) (cond ((eK a0 i4) != 45) (.inr false) (.inl ())) (.inl ()))) (cond ((eK a0 i4)>122) (cond ((eK a0 i4)<48) (cond ((eK a0 i4) != 45) (.inr false) (.inl ())) (cond ((eK a0 i4)>57) (cond ((eK a0 i4) != 45) (.inr false) (.inl ())) (.inl ()))) (.inl ())))) (fun s6=>true) a0.size 0 ()))))
def gd (a0:aC):Prop:=(a0.size<=(2^22))
def R:=RR gd md
def aj {a0}(h:gd a0):R a0=some (md a0):=cT h
def aU:=CN [pS] oB RT.dec R
def bh (a0)(H0:gd a0):∃n,start (iter step n) a0=ret (md a0):=by
 refine cx (Z49.aj trivial) (iy ret (fun _=>⟨0,rfl⟩) (fun c1=>?_))
 have Dc1:=c1
 simp [Z49.md] at Dc1
 refine dQ (have:=H0;dt) (iy ret (fun _=>⟨0,rfl⟩) (fun c2=>?_))
 refine dQ (have:=H0;dt) (dQ (have:=H0;dt) ?_)
 refine iy ret (fun _=>⟨0,rfl⟩) (fun c3=>?_)
 have Bh5:a0.size<=maxLen:=(by
   simp only [maxLen] at *
   omega)
 refine dW fz (cq (pt:=fun (i4:Nat) (s6:Unit)=>Pt.p0 a0 (i4:Int)) (fun _ _=>True) (fun J i4 s6 h5 hih5=>?_) (fun s6 hih5=>?_) trivial)
 ·simp only [step,SS]
  refine bq.yes dt (bq.yes aK ?_)
  refine bq.yes (aP h5) (bq.bif (fun c7=>?_) (fun c7=>?_))
  ·refine bq.yes aK (bq.yes (aP h5) ?_)
   refine bq.bif (fun c8=>?_) (fun c8=>?_)
   ·refine bq.yes aK (bq.yes (aP h5) ?_)
    refine bq.bif (fun _=>bq.inr rfl) (fun c9=>?_)
    refine bq.inl trivial ?_
    rw [aJ h5 Bh5]
   ·refine bq.yes aK (bq.yes (aP h5) ?_)
    refine bq.bif (fun c10=>?_) (fun c10=>?_)
    ·refine bq.yes aK (bq.yes (aP h5) ?_)
     refine bq.bif (fun _=>bq.inr rfl) (fun c11=>?_)
     refine bq.inl trivial ?_
     rw [aJ h5 Bh5]
    ·refine bq.inl trivial ?_
     rw [aJ h5 Bh5]
  ·refine bq.yes aK (bq.yes (aP h5) ?_)
   refine bq.bif (fun c12=>?_) (fun c12=>?_)
   ·refine bq.yes aK (bq.yes (aP h5) ?_)
    refine bq.bif (fun c13=>?_) (fun c13=>?_)
    ·refine bq.yes aK (bq.yes (aP h5) ?_)
     refine bq.bif (fun _=>bq.inr rfl) (fun c14=>?_)
     refine bq.inl trivial ?_
     rw [aJ h5 Bh5]
    ·refine bq.yes aK (bq.yes (aP h5) ?_)
     refine bq.bif (fun c15=>?_) (fun c15=>?_)
     ·refine bq.yes aK (bq.yes (aP h5) ?_)
      refine bq.bif (fun _=>bq.inr rfl) (fun c16=>?_)
      refine bq.inl trivial ?_
      rw [aJ h5 Bh5]
     ·refine bq.inl trivial ?_
      rw [aJ h5 Bh5]
   ·refine bq.inl trivial ?_
    rw [aJ h5 Bh5]
 ·simp only [step,SS]
  refine dH dn (⟨0,?_⟩)
  exact fz
def af:cC 122 aU:=L1 55 (fun _=>4) cG (fun _=>[]) live step start mix aB bh (cJ Z49.af) Tryz.func122
def tr {a0:aC}(h:md a0=true):1<=a0.size/\a0.size<=8:=by
 unfold md at h
 cases e:Z49.md (a0.size:Int) 1 8
 ·rw [e] at h;cases h
 ·simp [Z49.md] at e;omega
end Z50
namespace Z51
inductive Pt where
 | p0 (a:aD) (b:Int)
def cG:Pt->List V
 | .p0 a b=>[.sl none 9 a,.int .i64 b]
def step (J:Pt->aI):Pt->aI
 | .p0 a b=>(cond (b<(a.length:Int)) (m2 b (a.length:Int) (call (Z50.R (qA a (toNat b))) fun v1=>(cond (!v1) bT (J (.p0 a (i64.wrap (b+1))))))) (call (Z49.R ((a.length:Int),1,4)) fun v2=>ret (v2:Bool)))
def start (J:Pt->aI)(x0:aD):aI:=J (.p0 x0 0)
def live:Nat->Live:=fL [(2,gA [0,3])]
def md (a0:List aC):Bool:=(eo (S:=Unit) (β:=Bool) (fun (y1:aC) (s3:Unit)=>(cond (!(Z50.md y1)) (.inr (false:Bool)) (.inl ()))) (fun (s3:Unit)=>((Z49.md (a0.length:Int) 1 4):Bool)) a0 ())
def gd (a0:List aC):Prop:=(bO (2^22) (fun y:aC=>y.size<=(2^22)) a0)
def R:=RR gd md
def aj {a0}(h:gd a0):R (a0.map cK)=some (md a0):=cT h
def aU:=CN [pL 9] oB RT.dec R
def bh (a0)(hg:gd a0):∃n,start (iter step n) (a0.map cK)=ret (md a0):=by
 unfold gd at hg
 have H0:=hg
 unfold start md
 try simp only [SS]
 have Bh2:a0.length<=maxLen:=(by
   have:=(H0).1
   try simp only [maxLen] at *
   omega)
 refine ex_eq (out:=ret) (eS (z:=⟨#[]⟩)) ?_
 refine dW (p:=Pt.p0 (a0.map cK) 0) fz ?_
 refine cq (pt:=fun (i1:Nat) (s3:Unit)=>Pt.p0 (a0.map cK) (i1:Int)) (s:=(():Unit)) (out:=ret) (fun _ _=>True) (fun J i1 s3 h2 hih2=>?_) (fun s3 hih2=>?_) trivial
 ·simp only [step,SS]
  have bb_:=Bh2
  simp only [maxLen] at bb_
  have:=(H0).1
  refine bq.yes (by apply decide_eq_true;omega) ?_
  refine bq.yes aK ?_
  refine bq.yes (aP h2) ?_
  refine cr (Z50.aj (bO.getD (z:=⟨#[]⟩) H0 h2)) ?_
  refine bq.bif (fun _=>bq.inr rfl) (fun c4=>?_)
  refine bq.inl trivial ?_
  rw [aJ h2 Bh2]
  all_goals exact fz
 ·simp only [step,SS]
  have:=(H0).1
  refine dH (by apply decide_eq_false;omega) ?_
  refine cx (Z49.aj trivial) ?_
  refine ⟨0,?_⟩
  all_goals exact fz
def af:cC 85 aU:=L1 19 (fun _=>2) cG (fun _=>[]) live step start mix aB bh (eM Z50.af Z49.af) Tryz.func85
def tr {a0:List aC}(h:md a0=true):(1<=a0.length/\a0.length<=4)/\∀x∈a0,x.size<=8:=by
 have e:=nB (p:=fun y=>!(Z50.md y)) (b:=false) (c:=Z49.md (a0.length:Int) 1 4) (xs:=a0) (s:=())
 rw [show md a0=_ from e] at h
 cases ha:a0.any (fun y=>!(Z50.md y))<;>rw [ha] at h
 ·have h2:Z49.md (a0.length:Int) 1 4=true:=h
  simp [Z49.md] at h2
  refine ⟨by omega,fun x hx=>?_⟩
  rw [List.any_eq_false] at ha
  have:=ha x hx
  exact (Z50.tr (by simpa using this)).2
 ·cases h
def tl {x:aC}{xs:List aC}(h:md (x::xs)=true)(hx:¬xs.length=0):md xs=true:=by
 have key:∀a:List aC,md a=bif a.any (fun y=>!(Z50.md y)) then false else Z49.md (a.length:Int) 1 4:=fun a=>nB (p:=fun y=>!(Z50.md y)) (b:=false) (c:=Z49.md (a.length:Int) 1 4) (xs:=a) (s:=())
 have t:=tr h
 simp only [List.length_cons] at t
 rw [key] at h ⊢
 rw [List.any_cons] at h
 cases h1:xs.any (fun y=>!(Z50.md y)) with
 | true=>rw [h1,Bool.or_true] at h;cases h
 | false=>simp [Z49.md];omega
end Z51
namespace Z52
inductive Pt where
 | p0 (a:Int) (b:aC) (c:Int) (d:cu)
def cG:Pt->List V
 | .p0 a b c d=>[.int .i64 a,.str b,.cD 0 0,.int .i64 c]
def cX:Pt->List aW
 | .p0 a b c d=>[.box [.sl none 148 d.aN]]
def step (J:Pt->aI):Pt->aI
 | .p0 a b c d=>(cond (c<(d.aN.length:Int)) (m2 c (d.aN.length:Int) (cond ((bZ.at d.aN (toNat c)).bw==a) (m2 c (d.aN.length:Int) (cond ((bZ.at d.aN (toNat c)).aV==b) (ret (c:Int)) (J (.p0 a b (i64.wrap (c+1)) d)))) (J (.p0 a b (i64.wrap (c+1)) d)))) (ret ((-1):Int)))
def start (J:Pt->aI)(x0:cu)(x1:Int)(x2:aC):aI:=J (.p0 x1 x2 0 x0)
def live:Nat->Live:=fL [(2,gA [1,2,3,7])]
def md (a0:aG)(a1:Int)(a2:aC):Int:=(dV (S:=Unit) (β:=Int) (fun (i1:Nat) (y1:aA) (s3:Unit)=>(cond (y1.bw==a1) (cond (y1.aV==a2) (.inr ((i1:Int):Int)) (.inl ())) (.inl ()))) (fun (s3:Unit)=>((-1):Int)) 0 a0.aN ())
def gd (a0:aG)(a1:Int)(a2:aC):Prop:=(aG.Sm (2^21) a0)
def R:=RR (p3 gd) (u3 md)
def aj {a0 a1 a2}(h:gd a0 a1 a2):R ((aG.r a0),a1,a2)=some (md a0 a1 a2):=kN h
def aU:=CN [.agg xV,pI,pS] oI RT.dec R
def bh (a0)(a1)(a2)(hg:gd a0 a1 a2):∃n,start (iter step n) (aG.r a0) a1 a2=ret (md a0 a1 a2):=by
 unfold gd at hg
 have H0:=hg
 unfold start md
 try simp only [SS]
 have Bh2:a0.aN.length<=maxLen:=(by
   have:=(H0).1
   try simp only [maxLen] at *
   omega)
 refine ex_eq (out:=ret) (cW (z:=aA.zero)) ?_
 refine dW (p:=Pt.p0 a1 a2 0 (aG.r a0)) fz ?_
 refine cq (pt:=fun (i1:Nat) (s3:Unit)=>Pt.p0 a1 a2 (i1:Int) (aG.r a0)) (s:=(():Unit)) (out:=ret) (fun _ _=>True) (fun J i1 s3 h2 hih2=>?_) (fun s3 hih2=>?_) trivial
 ·simp only [step,SS]
  have bb_:=Bh2
  simp only [maxLen] at bb_
  have:=(H0).1
  refine bq.yes (by apply decide_eq_true;omega) ?_
  refine bq.yes aK ?_
  refine bq.yes (aP h2) ?_
  refine bq.bif (fun c4=>?_) (fun c4=>?_)
  ·refine bq.yes aK ?_
   refine bq.yes (aP h2) ?_
   refine bq.bif (fun c5=>?_) (fun c5=>?_)
   ·refine bq.inr ?_
    all_goals exact fz
   ·refine bq.inl trivial ?_
    rw [aJ h2 Bh2]
    all_goals exact fz
  ·refine bq.inl trivial ?_
   rw [aJ h2 Bh2]
   all_goals exact fz
 ·simp only [step,SS]
  have:=(H0).1
  refine dH (by apply decide_eq_false;omega) ?_
  refine ⟨0,?_⟩
  all_goals exact fz
def af:cC 135 aU:=L3 34 (fun _=>2) cG cX live step start mix aB bh .nil Tryz.func135
def fa (a0:aG)(a1:Int)(a2:aC):-1<=md a0 a1 a2/\md a0 a1 a2<(a0.aN.length:Int):=by
 unfold md
 refine gG ?_ _ _
 all_goals
  intro i x s b h
  revert h
  simp only [Bool.cond_eq_ite]
  repeat' split
  all_goals (intro h;first | (cases h;rfl) | cases h)
end Z52
namespace Z53
def F (x0:cu)(x1:Int)(x2:aC):aI:=(call (Z52.R (x0,x1,x2)) fun v1=>(cond (v1<0) (ret ((⟨[],false,(⟨(⟨#[]⟩:aC),0,0,[]⟩:bH),(⟨0,[]⟩:cS),(⟨0,(⟨(⟨#[]⟩:aC),0,0,[]⟩:bH),(⟨(⟨#[]⟩:aC),0,0,[]⟩:bH),(⟨0,[]⟩:cS),(⟨0,[]⟩:cS)⟩:eN)⟩:bf):bf)) (m2 v1 (x0.aN.length:Int) (call (Z47.R ((bZ.at x0.aN (toNat v1)).bS)) fun v2=>ret (v2:bf)))))
def md (a0:aG)(a1:Int)(a2:aC):aq:=(cond ((Z52.md a0 a1 a2)<0) (⟨[],false,(⟨((⟨#[]⟩:aC):aC),0,0,[]⟩:ah),(⟨0,[]⟩:aH),(⟨0,(⟨((⟨#[]⟩:aC):aC),0,0,[]⟩:ah),(⟨((⟨#[]⟩:aC):aC),0,0,[]⟩:ah),(⟨0,[]⟩:aH),(⟨0,[]⟩:aH)⟩:bK)⟩:aq) ((a0.aN.getD (toNat (Z52.md a0 a1 a2)) aA.zero).bS))
def gd (a0:aG)(a1:Int)(a2:aC):Prop:=(aG.Sm (2^21) a0)
def R:=RR (p3 gd) (u3 md)
def aj {a0 a1 a2}(h:gd a0 a1 a2):R ((aG.r a0),a1,a2)=some (aq.r (md a0 a1 a2)):=kN h
def aU:=CN [.agg xV,pI,pS] (.agg f126) RT.dec R
def bh (a0)(a1)(a2)(hg:gd a0 a1 a2):F (aG.r a0) a1 a2=ret (aq.r (md a0 a1 a2)):=by
 unfold gd at hg
 have H0:=hg
 unfold F md
 try simp only [SS]
 refine ct (Z52.aj H0) ?_
 have fv1_:=Z52.fa a0 a1 a2
 refine bt (fun b:aq=>ret ((aq.r b):bf)) (fun c1=>?_) (fun c1=>?_)
 ·all_goals exact fz
 ·have dc1:=c1
  try simp only [DC] at dc1
  refine ak dt ?_
  refine ak (have:=(H0).1;dt) ?_
  refine ct (Z47.aj (bO.getD (z:=aA.zero) H0 (by first | assumption | omega | (simp (disch:=omega) only [wi];omega) | (simp;omega))).2) ?_
  try simp only [SS]
  all_goals exact fz
def af:cC 87 aU:=W3 22 F mix aB bh (eM Z52.af Z47.af) Tryz.func87
def iF {a0:aG}{a1:Int}{a2:aC}(hg:gd a0 a1 a2):aq.Sm (2^21) (md a0 a1 a2):=by
 unfold gd at hg;unfold md
 have hf:=Z52.fa a0 a1 a2
 cases h:decide (Z52.md a0 a1 a2<0)
 ·simp only [decide_eq_false_iff_not] at h
  exact (bO.getD hg (by omega)).2
 ·exact ⟨bO.nil,⟨(zero_le _),bO.nil⟩,bO.nil,⟨⟨(zero_le _),bO.nil⟩,⟨(zero_le _),bO.nil⟩,bO.nil,bO.nil⟩⟩
end Z53
namespace Z54
inductive Pt where
 | p0 (a:Int) (b:cN)
def cG:Pt->List V
 | .p0 a b=>[.cD 0 0,.int .i64 a]
def cX:Pt->List aW
 | .p0 a b=>[.box [.sl none 3 b.aN,.int .i64 b.cH]]
def step (J:Pt->aI):Pt->aI
 | .p0 a b=>(cond (a<(b.aN.length:Int)) (m2 a (b.aN.length:Int) (call (Z49.R ((jG b.aN (toNat a)),1,99)) fun v1=>(cond (!v1) bT (cond (a>0) (cg ((0:Int)<=(i64.wrap (a - 1))) (cg ((i64.wrap (a - 1))<(b.aN.length:Int)) (m2 a (b.aN.length:Int) (cond ((jG b.aN (toNat (i64.wrap (a - 1))))>=(jG b.aN (toNat a))) bT (J (.p0 (i64.wrap (a+1)) b)))))) (J (.p0 (i64.wrap (a+1)) b)))))) (call (Z49.R ((b.aN.length:Int),1,4)) fun v2=>(cond v2 (call (Z49.R (b.cH,1,(b.aN.length:Int))) fun v3=>ret (v3:Bool)) bT)))
def start (J:Pt->aI)(x0:cN):aI:=J (.p0 0 x0)
def live:Nat->Live:=fL [(2,gA [1,3])]
def md (a0:aO):Bool:=(dV (S:=Unit) (β:=Bool) (fun i1 y1 s3=>(cond (!(Z49.md y1 1 99)) (.inr false) (cond ((i1:Int)>0) (cond ((a0.aN.getD (toNat (i64.wrap (i1 - 1))) 0)>=y1) (.inr false) (.inl ())) (.inl ())))) (fun s3=>(cond (Z49.md a0.aN.length 1 4) ((Z49.md a0.cH 1 a0.aN.length)) false)) 0 a0.aN ())
def gd (a0:aO):Prop:=(aO.Sm (2^21) a0)
def R:=RR gd md
def aj {a0}(h:gd a0):R (aO.r a0)=some (md a0):=cT h
def aU:=CN [.agg jw] oB RT.dec R
def bh (a0)(H0:gd a0):∃n,start (iter step n) (aO.r a0)=ret (md a0):=by
 have Bh2:=bl H0
 refine ex_eq (cW (z:=0)) (dW fz ?_)
 refine cq (pt:=fun (i1:Nat) (s3:Unit)=>Pt.p0 (i1:Int) (aO.r a0)) (fun _ _=>True) (fun J i1 s3 h2 hih2=>?_) (fun s3 hih2=>?_) trivial
 ·simp only [step,SS]
  have:=(H0).1
  refine bq.yes dt (bq.yes aK ?_)
  refine bq.yes (aP h2) (cr (Z49.aj trivial) ?_)
  refine bq.bif (fun _=>bq.inr rfl) (fun c4=>?_)
  refine bq.bif (fun c5=>?_) (fun c5=>?_)
  ·have dc5:=c5
   simp only [DC] at dc5
   refine bq.yes dt (bq.yes dt ?_)
   refine bq.yes aK (bq.yes (aP h2) ?_)
   refine bq.bif (fun _=>bq.inr rfl) (fun c6=>?_)
   refine bq.inl trivial ?_
   rw [aJ h2 Bh2]
  ·refine bq.inl trivial ?_
   rw [aJ h2 Bh2]
 ·simp only [step,SS]
  refine dH dn (cx (Z49.aj trivial) ?_)
  refine iy ret (fun c7=>?_) (fun _=>⟨0,rfl⟩)
  refine cx (Z49.aj trivial) (⟨0,?_⟩)
  exact fz
def af:cC 352 aU:=L1 48 (fun _=>2) cG cX live step start mix aB bh (cJ Z49.af) Tryz.func352
def tr {a0:aO}(h:md a0=true):1<=a0.aN.length/\a0.aN.length<=4:=by
 refine Classical.byContradiction fun hc=>?_
 have e1:Z49.md (a0.aN.length:Int) 1 4=false:=by simp [Z49.md];omega
 unfold md at h
 rw [e1] at h
 have h3:=lY (c:=false) (f:=fun (i1:Nat) (y1:Int) (s3:Unit)=>(cond (!(Z49.md y1 1 99)) (.inr (false:Bool)) (cond ((i1:Int)>0) (cond ((a0.aN.getD (toNat (i64.wrap ((i1:Int) - 1))) 0)>=y1) (.inr (false:Bool)) (.inl ())) (.inl ())))) (by
  intro i x s b h
  revert h
  simp only [Bool.cond_eq_ite]
  repeat' split
  all_goals (intro h;first | (cases h;rfl) | cases h)) a0.aN 0 ()
 simp only [bg] at h
 rw [h3] at h
 cases h
end Z54
namespace Z55
def F (x0:cN):aI:=(cond (x0.cH==0) (ret (((x0.aN.length:Int)==0))) (ret false))
def md (a0:aO):Bool:=(cond (a0.cH==0) (((a0.aN.length:Int)==0)) false)
def gd (a0:aO):Prop:=True
def R:=RR gd md
def aj {a0}(h:gd a0):R (aO.r a0)=some (md a0):=cT h
def aU:=CN [.agg jw] oB RT.dec R
def bh (a0)(hg:gd a0):F (aO.r a0)=ret (md a0):=by
 refine bs (fun c1=>?_) (fun _=>rfl)
 exact fz
def af:cC 353 aU:=W1 12 F mix aB bh .nil Tryz.func353
end Z55
namespace Z56
def F (x0:dm):aI:=(call (Z49.R (x0.bw,0,2147483646)) fun v1=>(cond (!v1) (ret false) (call (Z49.R (x0.dy,0,2147483646)) fun v2=>(cond (!v2) (ret false) (call (Z49.R (x0.dR,0,2147483646)) fun v3=>(cond (!v3) (ret false) (call (Z49.R (x0.cM,0,200)) fun v4=>(cond (!v4) (ret false) (call (Z49.R (x0.bI,1,3)) fun v5=>(cond (!v5) (ret false) (call (Z49.R (x0.cL,0,100000)) fun v6=>(cond (!v6) (ret false) (call (Z49.R (x0.cF,x0.cL,100000)) fun v7=>(cond (!v7) (ret false) (cond ((i64.wrap (x0.cF - x0.cL))>200) (ret false) (call (Z49.R (x0.cA,0,12)) fun v8=>(cond (!v8) (ret false) (call (Z54.R x0.bR) fun v9=>(cond (!v9) (ret false) (call (Z55.R x0.bE) fun v10=>(cond v10 (cond (x0.dB != 0) (ret false) (call (Z54.R x0.bB) fun v11=>(cond v11 (ret true) (call (Z55.R x0.bB) fun v12=>(cond v12 (ret ((!x0.bC))) (ret false)))))) (call (Z54.R x0.bE) fun v13=>(cond (!v13) (ret false) (call (Z49.R (x0.dB,1,500)) fun v14=>(cond (!v14) (ret false) (call (Z54.R x0.bB) fun v15=>(cond v15 (ret true) (call (Z55.R x0.bB) fun v16=>(cond v16 (ret ((!x0.bC))) (ret false))))))))))))))))))))))))))))))
def md (a0:aE):Bool:=(cond (!(Z49.md a0.bw 0 2147483646)) false (cond (!(Z49.md a0.dy 0 2147483646)) false (cond (!(Z49.md a0.dR 0 2147483646)) false (cond (!(Z49.md a0.cM 0 200)) false (cond (!(Z49.md a0.bI 1 3)) false (cond (!(Z49.md a0.cL 0 100000)) false (cond (!(Z49.md a0.cF a0.cL 100000)) false (cond ((i64.wrap (a0.cF - a0.cL))>200) false (cond (!(Z49.md a0.cA 0 12)) false (cond (!(Z54.md a0.bR)) false (cond (Z55.md a0.bE) (cond (a0.dB != 0) false (cond (Z54.md a0.bB) true (cond (Z55.md a0.bB) ((!a0.bC)) false))) (cond (!(Z54.md a0.bE)) false (cond (!(Z49.md a0.dB 1 500)) false (cond (Z54.md a0.bB) true (cond (Z55.md a0.bB) ((!a0.bC)) false)))))))))))))))
def gd (a0:aE):Prop:=(aE.Sm (2^21) a0)
def R:=RR gd md
def aj {a0}(h:gd a0):R (aE.r a0)=some (md a0):=cT h
def aU:=CN [.agg gB] oB RT.dec R
def bh (a0)(H0:gd a0):F (aE.r a0)=ret (md a0):=by
 refine ct (Z49.aj trivial) (bs (fun _=>rfl) (fun c1=>?_))
 refine ct (Z49.aj trivial) (bs (fun _=>rfl) (fun c2=>?_))
 refine ct (Z49.aj trivial) (bs (fun _=>rfl) (fun c3=>?_))
 refine ct (Z49.aj trivial) (bs (fun _=>rfl) (fun c4=>?_))
 refine ct (Z49.aj trivial) (bs (fun _=>rfl) (fun c5=>?_))
 refine ct (Z49.aj trivial) (bs (fun _=>rfl) (fun c6=>?_))
 refine ct (Z49.aj trivial) (bs (fun _=>rfl) (fun c7=>?_))
 refine bs (fun _=>rfl) (fun c8=>?_)
 refine ct (Z49.aj trivial) (bs (fun _=>rfl) (fun c9=>?_))
 refine ct (Z54.aj H0.1) (bs (fun _=>rfl) (fun c10=>?_))
 refine ct (Z55.aj trivial) (bs (fun c11=>?_) (fun c11=>?_))
 ·refine bs (fun _=>rfl) (fun c12=>?_)
  refine ct (Z54.aj H0.2.2) (bs (fun _=>rfl) (fun c13=>?_))
  refine ct (Z55.aj trivial) (bs (fun c14=>?_) (fun _=>rfl))
  exact fz
 ·refine ct (Z54.aj H0.2.1) (bs (fun _=>rfl) (fun c15=>?_))
  refine ct (Z49.aj trivial) (bs (fun _=>rfl) (fun c16=>?_))
  refine ct (Z54.aj H0.2.2) (bs (fun _=>rfl) (fun c17=>?_))
  refine ct (Z55.aj trivial) (bs (fun c18=>?_) (fun _=>rfl))
  exact fz
def af:cC 329 aU:=W1 92 F mix aB bh (jS Z49.af Z54.af Z55.af) Tryz.func329
def tr {a0:aE}(h:md a0=true):(1<=a0.bI/\a0.bI<=3)/\0<=a0.cL/\a0.cL<=a0.cF/\a0.cF<=100000/\0<=a0.cA/\a0.cA<=12:=by
 have key:∀x y z:Int,Z49.md x y z=true->y<=x/\x<=z:=fun x y z h=>by simpa [Z49.md] using h
 unfold md at h
 simp only [Cu,Bool.not_not,Bool.and_eq_true] at h
 obtain ⟨_,_,_,_,h5,h6,h7,_,h8,_⟩:=h
 have:=key _ _ _ h5
 have:=key _ _ _ h6
 have:=key _ _ _ h7
 have:=key _ _ _ h8
 omega
end Z56
namespace Z57
def F (x0:cN):aI:=(cg (eX (((2:Int)+x0.aN.length)*8)) (ret (([[L.int x0.cH],[L.int x0.aN.length]]++x0.aN):aD)))
def md (a0:aO):List Int:=([a0.cH,a0.aN.length]++a0.aN)
def gd (a0:aO):Prop:=(aO.Sm (2^21) a0)
def R:=RR gd md
def aj {a0}(h:gd a0):R (aO.r a0)=some ((md a0).map bk):=cT h
def aU:=CN [.agg jw] (oL 3) RT.dec R
def bh (a0)(H0:gd a0):F (aO.r a0)=ret ((md a0).map bk):=by
 unfold F md
 simp only [SS]
 exact ak (have:=(H0).1;lm) fz
def af:cC 333 aU:=W1 12 F mix aB bh .nil Tryz.func333
def len (a0:aO):(md a0).length=2+a0.aN.length:=by simp [md];omega
end Z57
namespace Z58
def F (x0 x1:Int):aI:=(call (Z49.R (x1,1,1000000000000)) fun v1=>(cond (!v1) (ret (0:Int)) (cond (x1=0) none (cond (x1=0) none (ret ((Int.tmod (i64.wrap ((Int.tmod x0 x1)+x1)) x1)))))))
def md (a0 a1:Int):Int:=(cond (!(Z49.md a1 1 1000000000000)) (0:Int) ((Int.tmod (i64.wrap ((Int.tmod a0 a1)+a1)) a1)))
def gd (a0 a1:Int):Prop:=True
def R:=RR (p2 gd) (u2 md)
def aj {a0 a1}(h:gd a0 a1):R (a0,a1)=some (md a0 a1):=cB h
def aU:=CN [pI,pI] oI RT.dec R
def bh (a0)(a1)(hg:gd a0 a1):F a0 a1=ret (md a0 a1):=by
 refine ct (Z49.aj trivial) (bs (fun _=>rfl) (fun c1=>?_))
 have Dc1:=c1
 simp [Z49.md] at Dc1
 refine cY df (cY df ?_)
 exact fz
def af:cC 342 aU:=W2 15 F mix aB bh (cJ Z49.af) Tryz.func342
end Z58
namespace Z59
inductive Pt where
 | p0 (a:aD) (b c:Int)
def cG:Pt->List V
 | .p0 a b c=>[.sl none 3 a,.int .i64 b,.int .i64 c]
def step (J:Pt->aI):Pt->aI
 | .p0 a b c=>(cond (c<(a.length:Int)) (m2 c (a.length:Int) (call (Z58.R ((jG a (toNat c)),2147483647)) fun v1=>J (.p0 a (Int.tmod (i64.wrap ((i64.wrap ((i64.wrap (b*1000003))+v1))+13)) 2147483647) (i64.wrap (c+1))))) (ret (b:Int)))
def start (J:Pt->aI)(x0:aD):aI:=J (.p0 x0 11 0)
def live:Nat->Live:=fL [(3,gA [0,3,4])]
def md (a0:List Int):Int:=(eo (S:=Int) (β:=Int) (fun (y1:Int) (s3:Int)=>(.inl (Int.tmod (i64.wrap ((i64.wrap ((i64.wrap (s3*1000003))+(Z58.md y1 2147483647)))+13)) 2147483647))) (fun (s3:Int)=>(s3:Int)) a0 11)
def gd (a0:List Int):Prop:=(bO (2^43) (fun y:Int=>True) a0)
def R:=RR gd md
def aj {a0}(h:gd a0):R (a0.map bk)=some (md a0):=cT h
def aU:=CN [pL 3] oI RT.dec R
def bh (a0)(hg:gd a0):∃n,start (iter step n) (a0.map bk)=ret (md a0):=by
 unfold gd at hg
 have H0:=hg
 unfold start md
 try simp only [SS]
 have Bh2:a0.length<=maxLen:=(by
   have:=(H0).1
   try simp only [maxLen] at *
   omega)
 refine ex_eq (out:=ret) (eS (z:=0)) ?_
 refine dW (p:=Pt.p0 (a0.map bk) 11 0) fz ?_
 refine cq (pt:=fun (i1:Nat) (s3:Int)=>Pt.p0 (a0.map bk) s3 (i1:Int)) (s:=(11:Int)) (out:=ret) (fun _ _=>True) (fun J i1 s3 h2 hih2=>?_) (fun s3 hih2=>?_) trivial
 ·simp only [step,SS]
  have bb_:=Bh2
  simp only [maxLen] at bb_
  have:=(H0).1
  refine bq.yes (by apply decide_eq_true;omega) ?_
  refine bq.yes aK ?_
  refine bq.yes (aP h2) ?_
  refine cr (Z58.aj trivial) ?_
  refine bq.inl trivial ?_
  rw [aJ h2 Bh2]
  all_goals exact fz
 ·simp only [step,SS]
  have:=(H0).1
  refine dH (by apply decide_eq_false;omega) ?_
  refine ⟨0,?_⟩
  all_goals exact fz
def af:cC 311 aU:=L1 22 (fun _=>3) cG (fun _=>[]) live step start mix aB bh (cJ Z58.af) Tryz.func311
end Z59
namespace Z60
def F (x0:cN)(x1:Int):aI:=(call (Z57.R x0) fun v1=>(cg (eX (((2:Int)+v1.length)*8)) (call (Z59.R ([[L.int 239],[L.int x1]]++v1)) fun v2=>ret v2)))
def md (a0:aO)(a1:Int):Int:=((Z59.md ([239,a1]++(Z57.md a0))))
def gd (a0:aO)(a1:Int):Prop:=(aO.Sm (2^21) a0)
def R:=RR (p2 gd) (u2 md)
def aj {a0 a1}(h:gd a0 a1):R ((aO.r a0),a1)=some (md a0 a1):=cB h
def aU:=CN [.agg jw,pI] oI RT.dec R
def bh (a0)(a1)(H0:gd a0 a1):F (aO.r a0) a1=ret (md a0 a1):=by
 refine ct (Z57.aj H0) (ak (have:=Z57.len a0;have:=(H0).1;lm) ?_)
 exact aX _ (rq (Z59.aj (a0:=([239,a1]++(Z57.md a0))) ⟨(have:=Z57.len a0;have:=(H0).1;om),fun _ _=>trivial⟩)) fz
def af:cC 330 aU:=W2 11 F mix aB bh (eM Z57.af Z59.af) Tryz.func330
end Z60
namespace Z61
def F (x0:dm):aI:=(call (Z57.R x0.bR) fun v1=>(cg (eX (((8:Int)+v1.length)*8)) (call (Z57.R x0.bE) fun v2=>(cg (eX (((([[L.int x0.bw],[L.int x0.cM],[L.int x0.bI],[L.int x0.cL],[L.int x0.cF],[L.int x0.cA],[L.int x0.dy],[L.int x0.dR]]++v1).length)+v2.length)*8)) (cg (eX ((((([[L.int x0.bw],[L.int x0.cM],[L.int x0.bI],[L.int x0.cL],[L.int x0.cF],[L.int x0.cA],[L.int x0.dy],[L.int x0.dR]]++v1)++v2).length)+1)*8)) (call (Z57.R x0.bB) fun v3=>(cg (eX (((((([[L.int x0.bw],[L.int x0.cM],[L.int x0.bI],[L.int x0.cL],[L.int x0.cF],[L.int x0.cA],[L.int x0.dy],[L.int x0.dR]]++v1)++v2)++[[L.int x0.dB]]).length)+v3.length)*8)) (cond x0.bC (cg (eX ((((((([[L.int x0.bw],[L.int x0.cM],[L.int x0.bI],[L.int x0.cL],[L.int x0.cF],[L.int x0.cA],[L.int x0.dy],[L.int x0.dR]]++v1)++v2)++[[L.int x0.dB]])++v3).length)+1)*8)) (ret (((((([[L.int x0.bw],[L.int x0.cM],[L.int x0.bI],[L.int x0.cL],[L.int x0.cF],[L.int x0.cA],[L.int x0.dy],[L.int x0.dR]]++v1)++v2)++[[L.int x0.dB]])++v3)++[[L.int 1]]):aD))) (cg (eX ((((((([[L.int x0.bw],[L.int x0.cM],[L.int x0.bI],[L.int x0.cL],[L.int x0.cF],[L.int x0.cA],[L.int x0.dy],[L.int x0.dR]]++v1)++v2)++[[L.int x0.dB]])++v3).length)+1)*8)) (ret (((((([[L.int x0.bw],[L.int x0.cM],[L.int x0.bI],[L.int x0.cL],[L.int x0.cF],[L.int x0.cA],[L.int x0.dy],[L.int x0.dR]]++v1)++v2)++[[L.int x0.dB]])++v3)++[[L.int 0]]):aD)))))))))))
def md (a0:aE):List Int:=(cond a0.bC ((((([a0.bw,a0.cM,a0.bI,a0.cL,a0.cF,a0.cA,a0.dy,a0.dR]++(Z57.md a0.bR))++(Z57.md a0.bE))++[a0.dB])++(Z57.md a0.bB))++[1]) ((((([a0.bw,a0.cM,a0.bI,a0.cL,a0.cF,a0.cA,a0.dy,a0.dR]++(Z57.md a0.bR))++(Z57.md a0.bE))++[a0.dB])++(Z57.md a0.bB))++[0]))
def gd (a0:aE):Prop:=(aE.Sm (2^21) a0)
def R:=RR gd md
def aj {a0}(h:gd a0):R (aE.r a0)=some ((md a0).map bk):=cT h
def aU:=CN [.agg gB] (oL 3) RT.dec R
def bh (a0)(H0:gd a0):F (aE.r a0)=ret ((md a0).map bk):=by
 refine ct (Z57.aj H0.1) (ak (have:=Z57.len a0.bR;have:=(H0.1).1;lm) ?_)
 refine ct (Z57.aj H0.2.1) (ak (have:=Z57.len a0.bR;have:=(H0.1).1;have:=Z57.len a0.bE;have:=(H0.2.1).1;lm) ?_)
 refine ak (have:=Z57.len a0.bR;have:=(H0.1).1;have:=Z57.len a0.bE;have:=(H0.2.1).1;lm) (ct (Z57.aj H0.2.2) ?_)
 exact ak (have:=Z57.len a0.bR;have:=(H0.1).1;have:=Z57.len a0.bE;have:=(H0.2.1).1;have:=Z57.len a0.bB;have:=(H0.2.2).1;lm) (bt (fun b:List Int=>ret ((b.map bk):aD)) (fun c1=>ak (have:=Z57.len a0.bR;have:=(H0.1).1;have:=Z57.len a0.bE;have:=(H0.2.1).1;have:=Z57.len a0.bB;have:=(H0.2.2).1;lm) fz) (fun c1=>ak (have:=Z57.len a0.bR;have:=(H0.1).1;have:=Z57.len a0.bE;have:=(H0.2.1).1;have:=Z57.len a0.bB;have:=(H0.2.2).1;lm) fz))
def af:cC 292 aU:=W1 49 F mix aB bh (cJ Z57.af) Tryz.func292
def len (a0:aE):(md a0).length=16+a0.bR.aN.length+a0.bE.aN.length+a0.bB.aN.length:=by unfold md;cases a0.bC<;>simp [Z57.md]<;>omega
def Cd {k l:aO}{x y:List Int}(h:Z57.md k++x=Z57.md l++y):k=l/\x=y:=by
 obtain ⟨kl,kn⟩:=k
 obtain ⟨ll,ln⟩:=l
 simp only [Z57.md,List.cons_append,List.nil_append,List.cons.injEq] at h
 obtain ⟨h1,h2,h3⟩:=h
 obtain ⟨h4,h5⟩:=List.append_inj h3 (by omega)
 exact ⟨by rw [h1,h4],h5⟩
def uv (a:aE):md a=a.bw::a.cM::a.bI::a.cL::a.cF::a.cA::a.dy::a.dR::(Z57.md a.bR++(Z57.md a.bE++(a.dB::(Z57.md a.bB++[bif a.bC then 1 else 0])))):=by
 unfold md
 cases a.bC<;>simp only [aZ,bg,List.append_assoc,List.cons_append,List.nil_append]
def inj {a b:aE}(h:md a=md b):a=b:=by
 rw [uv,uv] at h
 simp only [List.cons.injEq] at h
 obtain ⟨g1,g2,g3,g4,g5,g6,g7,g8,g9⟩:=h
 obtain ⟨k1,g9⟩:=Cd g9
 obtain ⟨k2,g9⟩:=Cd g9
 simp only [List.cons.injEq] at g9
 obtain ⟨k3,g9⟩:=g9
 obtain ⟨k4,g9⟩:=Cd g9
 have k5:a.bC=b.bC:=by
  simp only [List.cons.injEq,and_true] at g9
  revert g9
  cases a.bC<;>cases b.bC<;>simp
 cases a;cases b
 simp only [aE.mk.injEq]
 exact ⟨g1,g2,g3,g4,g5,g6,g7,g8,k1,k2,k3,k4,k5⟩
end Z61
namespace Z62
def F (x0:Int)(x1:aD):aI:=(cg (eX (((1:Int)+x1.length)*8)) (cg (eX (((([[L.int x0]]++x1).length)+1)*8)) (call (Z59.R (([[L.int x0]]++x1)++[[L.int x0]])) fun v1=>ret v1)))
def md (a0:Int)(a1:List Int):Int:=((Z59.md (([a0]++a1)++[a0])))
def gd (a0:Int)(a1:List Int):Prop:=(bO (2^40) (fun y:Int=>True) a1)
def R:=RR (p2 gd) (u2 md)
def aj {a0 a1}(h:gd a0 a1):R (a0,(a1.map bk))=some (md a0 a1):=cB h
def aU:=CN [pI,pL 3] oI RT.dec R
def bh (a0)(a1)(H1:gd a0 a1):F a0 (a1.map bk)=ret (md a0 a1):=by
 refine ak (have:=(H1).1;lm) (ak (have:=(H1).1;lm) ?_)
 exact aX _ (rq (Z59.aj (a0:=(([a0]++a1)++[a0])) ⟨(have:=(H1).1;om),fun _ _=>trivial⟩)) fz
def af:cC 406 aU:=W2 13 F mix aB bh (cJ Z59.af) Tryz.func406
end Z62
namespace Z63
def F (x0:Int)(x1:aD):aI:=(cg (eX (((1:Int)+x1.length)*8)) (call (Z62.R (x0,([[L.int 223]]++x1))) fun v1=>ret v1))
def md (a0:Int)(a1:List Int):Int:=((Z62.md a0 ([223]++a1)))
def gd (a0:Int)(a1:List Int):Prop:=(bO (2^39) (fun y:Int=>True) a1)
def R:=RR (p2 gd) (u2 md)
def aj {a0 a1}(h:gd a0 a1):R (a0,(a1.map bk))=some (md a0 a1):=cB h
def aU:=CN [pI,pL 3] oI RT.dec R
def bh (a0)(a1)(H1:gd a0 a1):F a0 (a1.map bk)=ret (md a0 a1):=by
 refine ak (have:=(H1).1;lm) (aX _ (rq (Z62.aj (a1:=([223]++a1)) ⟨(have:=(H1).1;om),fun _ _=>trivial⟩)) ?_)
 exact fz
def af:cC 402 aU:=W2 10 F mix aB bh (cJ Z62.af) Tryz.func402
end Z63
namespace Z64
def F (x0:bn)(x1:aD):aI:=(call (Z49.R (x0.iu,1,99)) fun v1=>(cond v1 (call (Z63.R (x0.iu,x1)) fun v2=>ret ((x0.jM==v2))) (ret false)))
def md (a0:bn)(a1:List Int):Bool:=(cond (Z49.md a0.iu 1 99) ((a0.jM==(Z63.md a0.iu a1))) false)
def gd (a0:bn)(a1:List Int):Prop:=(bO (2^38) (fun y:Int=>True) a1)
def R:=RR (p2 gd) (u2 md)
def aj {a0 a1}(h:gd a0 a1):R (a0,(a1.map bk))=some (md a0 a1):=cB h
def aU:=CN [.agg Ap,pL 3] oB RT.dec R
def bh (a0)(a1)(H1:gd a0 a1):F a0 (a1.map bk)=ret (md a0 a1):=by
 refine ct (Z49.aj trivial) (bs (fun c1=>?_) (fun _=>rfl))
 exact ct (Z63.aj (H1.mono (by decide) (fun x hx=>trivial))) fz
def af:cC 385 aU:=W2 17 F mix aB bh (eM Z49.af Z63.af) Tryz.func385
end Z64
namespace Z65
inductive Pt where
 | p0 (a b:aD) (c d:Int) (e:cN)
 | p1 (a b:aD) (c d e:Int) (f:cN)
def pid:Pt->Nat
 | .p0 ..=>3
 | .p1 ..=>6
def cG:Pt->List V
 | .p0 a b c d e=>[.sl none 3 a,.sl none 227 b,.cD 0 0,.int .i64 c,.int .i64 d]
 | .p1 a b c d e f=>[.sl none 3 a,.sl none 227 b,.cD 0 0,.int .i64 c,.int .i64 d,.int .i64 e]
def cX:Pt->List aW
 | .p0 a b c d e=>[.box [.sl none 3 e.aN,.int .i64 e.cH]]
 | .p1 a b c d e f=>[.box [.sl none 3 f.aN,.int .i64 f.cH]]
def step (J:Pt->aI):Pt->aI
 | .p0 a b c d e=>(cond (d<(e.aN.length:Int)) (J (.p1 a b c d 0 e)) (ret (c:Int)))
 | .p1 a b c d e f=>(cond (e<(b.length:Int)) (m2 e (b.length:Int) (m2 d (f.aN.length:Int) (cond ((bn.at b (toNat e)).iu==(jG f.aN (toNat d))) (m2 e (b.length:Int) (call (Z64.R ((bn.at b (toNat e)),a)) fun v1=>(cond v1 (J (.p0 a b (i64.wrap (c+1)) (i64.wrap (d+1)) f)) (J (.p1 a b c d (i64.wrap (e+1)) f))))) (J (.p1 a b c d (i64.wrap (e+1)) f))))) (J (.p0 a b c (i64.wrap (d+1)) f)))
def start (J:Pt->aI)(x0:cN)(x1 x2:aD):aI:=J (.p0 x1 x2 0 0 x0)
def live:Nat->Live:=fL [(3,gA [1,2,3,7,8]),(6,gA [1,2,3,7,8,9])]
def md (a0:aO)(a1:List Int)(a2:List bn):Int:=(eo (S:=Int) (β:=Int) (fun y1 s3=>(eo (S:=Unit) (β:=(Int⊕Int)) (fun y5 s7=>(cond (y5.iu==y1) (cond (Z64.md y5 a1) (.inr (.inl (i64.wrap (s3+1)))) (.inl ())) (.inl ()))) (fun s7=>(.inl s3)) a2 ())) (fun s3=>s3) a0.aN 0)
def gd (a0:aO)(a1:List Int)(a2:List bn):Prop:=(aO.Sm (2^21) a0)/\(bO (2^38) (fun y:Int=>True) a1)/\(bO (2^21) (fun y:bn=>bn.Sm (2^21) y) a2)
def R:=RR (p3 gd) (u3 md)
def aj {a0 a1 a2}(h:gd a0 a1 a2):R ((aO.r a0),(a1.map bk),(a2.map bn.row))=some (md a0 a1 a2):=kN h
def aU:=CN [.agg jw,pL 3,pL 227] oI RT.dec R
def bh (a0)(a1)(a2)(hg:gd a0 a1 a2):∃n,start (iter step n) (aO.r a0) (a1.map bk) (a2.map bn.row)=ret (md a0 a1 a2):=by
 obtain ⟨H0,H1,H2⟩:=hg
 have Bh2:=bl H0
 refine ex_eq (eS (z:=0)) (dW fz ?_)
 refine wQ (pt:=fun (i1:Nat) (s3:Int)=>Pt.p0 (a1.map bk) (a2.map bn.row) s3 (i1:Int) (aO.r a0)) (fun _ _=>True) (fun i1 s3 h2 hih2 K4 hK4 rK4=>?_) (fun s3 hih2=>?_) trivial
 ·simp only [step,SS]
  refine dQ dt ?_
  have Bh6:=bl H2
  refine ex_eq (eS (z:=bn.zero)) (dW fz ?_)
  refine wQ (pt:=fun (i5:Nat) (s7:Unit)=>Pt.p1 (a1.map bk) (a2.map bn.row) s3 (i1:Int) (i5:Int) (aO.r a0)) (fun _ _=>True) (fun i5 s7 h6 hih6 K8 hK8 rK8=>?_) (fun s7 hih6=>?_) trivial
  ·simp only [step,SS]
   refine dQ dt (dQ aK ?_)
   refine dQ (aP h6) (dQ dt ?_)
   refine dQ dt (iy K8 (fun c9=>?_) (fun c9=>?_))
   ·refine dQ aK (dQ (aP h6) ?_)
    refine cx (Z64.aj H1) (iy K8 (fun c10=>?_) (fun c10=>?_))
    ·rw [rK8]
     rw [aJ h2 Bh2]
     exact hK4 _ trivial
    ·rw [aJ h6 Bh6]
     exact hK8 _ trivial
   ·rw [aJ h6 Bh6]
    exact hK8 _ trivial
  ·simp only [step,SS]
   refine dH dn ?_
   rw [aJ h2 Bh2]
   exact hK4 _ trivial
 ·simp only [step,SS]
  refine dH dn (⟨0,?_⟩)
  exact fz
def af:cC 354 aU:=L3 45 pid cG cX live step start mix aB bh (cJ Z64.af) Tryz.func354
end Z65
namespace Z66
def F (x0:cN)(x1 x2:aD):aI:=(call (Z54.R x0) fun v1=>(cond v1 (call (Z65.R (x0,x1,x2)) fun v2=>ret ((decide (v2>=x0.cH)))) (ret false)))
def md (a0:aO)(a1:List Int)(a2:List bn):Bool:=(cond (Z54.md a0) ((decide ((Z65.md a0 a1 a2)>=a0.cH))) false)
def gd (a0:aO)(a1:List Int)(a2:List bn):Prop:=(aO.Sm (2^21) a0)/\(bO (2^38) (fun y:Int=>True) a1)/\(bO (2^21) (fun y:bn=>bn.Sm (2^21) y) a2)
def R:=RR (p3 gd) (u3 md)
def aj {a0 a1 a2}(h:gd a0 a1 a2):R ((aO.r a0),(a1.map bk),(a2.map bn.row))=some (md a0 a1 a2):=kN h
def aU:=CN [.agg jw,pL 3,pL 227] oB RT.dec R
def bh (a0)(a1)(a2)(hg:gd a0 a1 a2):F (aO.r a0) (a1.map bk) (a2.map bn.row)=ret (md a0 a1 a2):=by
 obtain ⟨H0,H1,H2⟩:=hg
 refine ct (Z54.aj H0) (bs (fun c1=>?_) (fun _=>rfl))
 exact ct (Z65.aj ⟨H0,H1,H2⟩) fz
def af:cC 331 aU:=W3 18 F mix aB bh (eM Z54.af Z65.af) Tryz.func331
end Z66
namespace Z67
def F (x0:aY):aI:=(call (Z56.R x0.an) fun v1=>(cond v1 (cond (x0.an.cM==0) (cond (x0.an.bI==1) (cond (!x0.an.bC) (call (Z60.R (x0.an.bR,x0.an.dR)) fun v2=>(cond (x0.an.bw==v2) (call (Z61.R x0.an) fun v3=>(call (Z66.R (x0.an.bR,v3,x0.cI)) fun v4=>ret (v4:Bool))) bT)) bT) bT) bT) bT))
def md (a0:aa):Bool:=(cond (Z56.md a0.an) (cond (a0.an.cM==0) (cond (a0.an.bI==1) (cond (!a0.an.bC) (cond (a0.an.bw==(Z60.md a0.an.bR a0.an.dR)) ((Z66.md a0.an.bR (Z61.md a0.an) a0.cI):Bool) (false:Bool)) (false:Bool)) (false:Bool)) (false:Bool)) (false:Bool))
def gd (a0:aa):Prop:=(aa.Sm (2^21) a0)
def R:=RR gd md
def aj {a0}(h:gd a0):R (aa.r a0)=some (md a0):=cT h
def aU:=CN [.agg lB] oB RT.dec R
def bh (a0)(hg:gd a0):F (aa.r a0)=ret (md a0):=by
 unfold gd at hg
 have H0:=hg
 unfold F md
 try simp only [SS]
 refine ct (Z56.aj H0.1) ?_
 refine bt ret (fun c1=>?_) (fun _=>rfl)
 try have tc1:=Z56.tr (by simpa using c1)
 refine bt ret (fun c2=>?_) (fun _=>rfl)
 have dc2:=c2
 try simp only [DC] at dc2
 refine bt ret (fun c3=>?_) (fun _=>rfl)
 have dc3:=c3
 try simp only [DC] at dc3
 refine bt ret (fun c4=>?_) (fun _=>rfl)
 have dc4:=c4
 try simp only [DC] at dc4
 refine ct (Z60.aj H0.1.1) ?_
 refine bt ret (fun c5=>?_) (fun _=>rfl)
 have dc5:=c5
 try simp only [DC] at dc5
 refine ct (Z61.aj H0.1) ?_
 try simp only [SS]
 refine ct (Z66.aj ⟨H0.1.1,⟨(have:=Z61.len a0.an;have:=(H0.1.1).1;have:=(H0.1.2.1).1;have:=(H0.1.2.2).1;om),fun _ _=>trivial⟩,H0.2⟩) ?_
 all_goals exact fz
def af:cC 289 aU:=W1 42 F mix aB bh (kP Z56.af Z60.af Z61.af Z66.af) Tryz.func289
end Z67
namespace Z68
def F (x0:dm):aI:=(call (Z61.R x0) fun v1=>(cg (eX (((1:Int)+v1.length)*8)) (call (Z59.R ([[L.int 233]]++v1)) fun v2=>ret v2)))
def md (a0:aE):Int:=((Z59.md ([233]++(Z61.md a0))))
def gd (a0:aE):Prop:=(aE.Sm (2^21) a0)
def R:=RR gd md
def aj {a0}(h:gd a0):R (aE.r a0)=some (md a0):=cT h
def aU:=CN [.agg gB] oI RT.dec R
def bh (a0)(H0:gd a0):F (aE.r a0)=ret (md a0):=by
 refine ct (Z61.aj H0) (ak (have:=Z61.len a0;have:=(H0.1).1;have:=(H0.2.1).1;have:=(H0.2.2).1;lm) ?_)
 exact aX _ (rq (Z59.aj (a0:=([233]++(Z61.md a0))) ⟨(have:=Z61.len a0;have:=(H0.1).1;have:=(H0.2.1).1;have:=(H0.2.2).1;om),fun _ _=>trivial⟩)) fz
def af:cC 355 aU:=W1 8 F mix aB bh (eM Z61.af Z59.af) Tryz.func355
end Z68
namespace Z69
def F (x0 x1:dm):aI:=(cond x0.bC (ret (4:Int)) (cond x1.bC (ret (6:Int)) (ret (1:Int))))
def md (a0 a1:aE):Int:=(cond a0.bC (4:Int) (cond a1.bC (6:Int) (1:Int)))
def gd (a0 a1:aE):Prop:=True
def R:=RR (p2 gd) (u2 md)
def aj {a0 a1}(h:gd a0 a1):R ((aE.r a0),(aE.r a1))=some (md a0 a1):=cB h
def aU:=CN [.agg gB,.agg gB] oI RT.dec R
def bh (a0)(a1)(hg:gd a0 a1):F (aE.r a0) (aE.r a1)=ret (md a0 a1):=by
 refine bs (fun _=>rfl) (fun c1=>?_)
 refine bs (fun _=>rfl) (fun _=>rfl)
def af:cC 356 aU:=W2 11 F mix aB bh .nil Tryz.func356
end Z69
namespace Z70
inductive Pt where
 | p0 (a b:aD) (c:Int)
def cG:Pt->List V
 | .p0 a b c=>[.sl none 3 a,.sl none 3 b,.int .i64 c]
def step (J:Pt->aI):Pt->aI
 | .p0 a b c=>(cond (c<(a.length:Int)) (m2 c (a.length:Int) (m2 c (b.length:Int) (cond ((jG a (toNat c)) != (jG b (toNat c))) bT (J (.p0 a b (i64.wrap (c+1))))))) gf)
def start (J:Pt->aI)(x0 x1:aD):aI:=(cond ((x0.length:Int) != (x1.length:Int)) bT (J (.p0 x0 x1 0)))
def live:Nat->Live:=fL [(4,gA [0,1,5])]
def md (a0 a1:List Int):Bool:=(bif ((a0.length:Int) != (a1.length:Int)) then (false:Bool) else (eL (S:=Unit) (β:=Bool) (fun (i2:Nat) (s4:Unit)=>(cond ((a0.getD i2 0) != (a1.getD i2 0)) (.inr (false:Bool)) (.inl ()))) (fun (s4:Unit)=>(true:Bool)) a0.length 0 ()))
def gd (a0 a1:List Int):Prop:=(bO (2^38) (fun y:Int=>True) a0)/\(bO (2^38) (fun y:Int=>True) a1)
def R:=RR (p2 gd) (u2 md)
def aj {a0 a1}(h:gd a0 a1):R ((a0.map bk),(a1.map bk))=some (md a0 a1):=cB h
def aU:=CN [pL 3,pL 3] oB RT.dec R
def bh (a0)(a1)(hg:gd a0 a1):∃n,start (iter step n) (a0.map bk) (a1.map bk)=ret (md a0 a1):=by
 obtain ⟨H0,H1⟩:=hg
 unfold start md
 try simp only [SS]
 refine iy ret (fun _=>⟨0,rfl⟩) (fun c1=>?_)
 have dc1:=c1
 try simp only [DC] at dc1
 have Bh3:a0.length<=maxLen:=(by
   have:=(H0).1
   try simp only [maxLen] at *
   omega)
 refine dW (p:=Pt.p0 (a0.map bk) (a1.map bk) 0) fz ?_
 refine cq (pt:=fun (i2:Nat) (s4:Unit)=>Pt.p0 (a0.map bk) (a1.map bk) (i2:Int)) (s:=(():Unit)) (out:=ret) (fun _ _=>True) (fun J i2 s4 h3 hih3=>?_) (fun s4 hih3=>?_) trivial
 ·simp only [step,SS]
  have bb_:=Bh3
  simp only [maxLen] at bb_
  have:=(H0).1
  refine bq.yes (by apply decide_eq_true;omega) ?_
  refine bq.yes aK ?_
  refine bq.yes (aP h3) ?_
  refine bq.yes aK ?_
  refine bq.yes (have:=(H1).1;dt) ?_
  refine bq.bif (fun _=>bq.inr rfl) (fun c5=>?_)
  refine bq.inl trivial ?_
  rw [aJ h3 Bh3]
  all_goals exact fz
 ·simp only [step,SS]
  have:=(H0).1
  refine dH (by apply decide_eq_false;omega) ?_
  refine ⟨0,?_⟩
  all_goals exact fz
def af:cC 291 aU:=L2 26 (fun _=>4) cG (fun _=>[]) live step start mix aB bh .nil Tryz.func291
def md_eq (a0 a1:List Int):md a0 a1=eD a0 a1:=by
 unfold md
 refine kX (0) (fun i s h h2=>?_) (fun s=>rfl)
 simp only [bne,fV,bool_beq,fD]
 cases eD _ _<;>rfl
end Z70
namespace Z71
def F (x0 x1:cN):aI:=(cond (x0.cH==x1.cH) (call (Z70.R (x0.aN,x1.aN)) fun v1=>ret v1) (ret false))
def md (a0 a1:aO):Bool:=(cond (a0.cH==a1.cH) ((Z70.md a0.aN a1.aN)) false)
def gd (a0 a1:aO):Prop:=(aO.Sm (2^21) a0)/\(aO.Sm (2^21) a1)
def R:=RR (p2 gd) (u2 md)
def aj {a0 a1}(h:gd a0 a1):R ((aO.r a0),(aO.r a1))=some (md a0 a1):=cB h
def aU:=CN [.agg jw,.agg jw] oB RT.dec R
def bh (a0)(a1)(hg:gd a0 a1):F (aO.r a0) (aO.r a1)=ret (md a0 a1):=by
 obtain ⟨H0,H1⟩:=hg
 refine bs (fun c1=>?_) (fun _=>rfl)
 exact ct (Z70.aj ⟨(H0.mono (by decide) (fun x hx=>trivial)),(H1.mono (by decide) (fun x hx=>trivial))⟩) fz
def af:cC 386 aU:=W2 17 F mix aB bh (cJ Z70.af) Tryz.func386
def md_eq (a0 a1:aO):md a0 a1=eD a0 a1:=by
 unfold md
 cases a0;cases a1
 rw [Bool.eq_iff_iff]
 simp [dz,fD,aO.mk.injEq,Z70.md_eq]
 try (constructor<;>(intro h;simp_all))
end Z71
namespace Z72
def F (x0 x1:dm):aI:=(cond (x0.cA==x1.cA) (ret ((x0.dy==x1.dy))) (ret false))
def md (a0 a1:aE):Bool:=(cond (a0.cA==a1.cA) ((a0.dy==a1.dy)) false)
def gd (a0 a1:aE):Prop:=True
def R:=RR (p2 gd) (u2 md)
def aj {a0 a1}(h:gd a0 a1):R ((aE.r a0),(aE.r a1))=some (md a0 a1):=cB h
def aU:=CN [.agg gB,.agg gB] oB RT.dec R
def bh (a0)(a1)(hg:gd a0 a1):F (aE.r a0) (aE.r a1)=ret (md a0 a1):=by
 refine bs (fun c1=>?_) (fun _=>rfl)
 exact fz
def af:cC 387 aU:=W2 17 F mix aB bh .nil Tryz.func387
end Z72
namespace Z73
def F (x0 x1:dm):aI:=(cond x0.bC (ret (4:Int)) (call (Z55.R x0.bE) fun v1=>(cond v1 (ret (5:Int)) (cond (x1.cL<(i64.wrap (x0.cF+x0.dB))) (ret (5:Int)) (cond x1.bC (ret (6:Int)) (call (Z71.R (x1.bR,x0.bE)) fun v2=>(cond (!v2) (ret (6:Int)) (call (Z72.R (x1,x0)) fun v3=>(cond (!v3) (ret (6:Int)) (ret (1:Int)))))))))))
def md (a0 a1:aE):Int:=(cond a0.bC (4:Int) (cond (Z55.md a0.bE) (5:Int) (cond (a1.cL<(i64.wrap (a0.cF+a0.dB))) (5:Int) (cond a1.bC (6:Int) (cond (!(Z71.md a1.bR a0.bE)) (6:Int) (cond (!(Z72.md a1 a0)) (6:Int) (1:Int)))))))
def gd (a0 a1:aE):Prop:=(aE.Sm (2^21) a0)/\(aE.Sm (2^21) a1)
def R:=RR (p2 gd) (u2 md)
def aj {a0 a1}(h:gd a0 a1):R ((aE.r a0),(aE.r a1))=some (md a0 a1):=cB h
def aU:=CN [.agg gB,.agg gB] oI RT.dec R
def bh (a0)(a1)(hg:gd a0 a1):F (aE.r a0) (aE.r a1)=ret (md a0 a1):=by
 obtain ⟨H0,H1⟩:=hg
 refine bs (fun _=>rfl) (fun c1=>?_)
 refine ct (Z55.aj trivial) (bs (fun _=>rfl) (fun c2=>?_))
 refine bs (fun _=>rfl) (fun c3=>?_)
 refine bs (fun _=>rfl) (fun c4=>?_)
 refine ct (Z71.aj ⟨H1.1,H0.2.1⟩) (bs (fun _=>rfl) (fun c5=>?_))
 refine ct (Z72.aj trivial) (bs (fun _=>rfl) (fun _=>rfl))
def af:cC 357 aU:=W2 39 F mix aB bh (jS Z55.af Z71.af Z72.af) Tryz.func357
end Z73
namespace Z74
def F (x0 x1:dm):aI:=(call (Z55.R x0.bB) fun v1=>(cond v1 (ret (5:Int)) (cond (x1.bC==x0.bC) (ret (6:Int)) (call (Z72.R (x1,x0)) fun v2=>(cond (!v2) (ret (6:Int)) (call (Z71.R (x1.bB,x0.bB)) fun v3=>(cond (!v3) (ret (6:Int)) (call (Z71.R (x1.bE,x0.bE)) fun v4=>(cond (!v4) (ret (6:Int)) (cond (x1.dB != x0.dB) (ret (6:Int)) (cond x1.bC (call (Z71.R (x1.bR,x0.bR)) fun v5=>(cond (!v5) (ret (6:Int)) (ret (1:Int)))) (ret (1:Int)))))))))))))
def md (a0 a1:aE):Int:=(cond (Z55.md a0.bB) (5:Int) (cond (a1.bC==a0.bC) (6:Int) (cond (!(Z72.md a1 a0)) (6:Int) (cond (!(Z71.md a1.bB a0.bB)) (6:Int) (cond (!(Z71.md a1.bE a0.bE)) (6:Int) (cond (a1.dB != a0.dB) (6:Int) (cond a1.bC (cond (!(Z71.md a1.bR a0.bR)) (6:Int) (1:Int)) (1:Int))))))))
def gd (a0 a1:aE):Prop:=(aE.Sm (2^21) a0)/\(aE.Sm (2^21) a1)
def R:=RR (p2 gd) (u2 md)
def aj {a0 a1}(h:gd a0 a1):R ((aE.r a0),(aE.r a1))=some (md a0 a1):=cB h
def aU:=CN [.agg gB,.agg gB] oI RT.dec R
def bh (a0)(a1)(hg:gd a0 a1):F (aE.r a0) (aE.r a1)=ret (md a0 a1):=by
 obtain ⟨H0,H1⟩:=hg
 unfold F md
 try simp only [SS]
 refine ct (Z55.aj trivial) ?_
 refine bt ret (fun _=>rfl) (fun c1=>?_)
 refine bt ret (fun _=>rfl) (fun c2=>?_)
 refine ct (Z72.aj trivial) ?_
 refine bt ret (fun _=>rfl) (fun c3=>?_)
 refine ct (Z71.aj ⟨H1.2.2,H0.2.2⟩) ?_
 refine bt ret (fun _=>rfl) (fun c4=>?_)
 refine ct (Z71.aj ⟨H1.2.1,H0.2.1⟩) ?_
 refine bt ret (fun _=>rfl) (fun c5=>?_)
 refine bt ret (fun _=>rfl) (fun c6=>?_)
 refine bt ret (fun c7=>?_) (fun _=>rfl)
 refine ct (Z71.aj ⟨H1.1,H0.1⟩) ?_
 refine bt ret (fun _=>rfl) (fun _=>rfl)
def af:cC 358 aU:=W2 55 F mix aB bh (jS Z55.af Z72.af Z71.af) Tryz.func358
end Z74
namespace Z75
def F (x0:dm)(x1:aY):aI:=(call (Z56.R x0) fun v1=>(cond (!v1) (ret (2:Int)) (call (Z56.R x1.an) fun v2=>(cond (!v2) (ret (2:Int)) (cond (x1.an.bw != x0.bw) (ret (3:Int)) (cond (x1.an.cM != (i64.wrap (x0.cM+1))) (ret (3:Int)) (call (Z68.R x0) fun v3=>(cond (x1.an.dR != v3) (ret (3:Int)) (cond (x1.an.cL<x0.cL) (ret (3:Int)) (call (Z69.R (x0,x1.an)) fun v4=>(cond (x1.an.bI==2) (call (Z73.R (x0,x1.an)) fun v5=>(cond (v5==1) (call (Z61.R x1.an) fun v6=>(call (Z66.R (x0.bE,v6,x1.cI)) fun v7=>(cond (!v7) (ret (7:Int)) (ret v5)))) (ret v5))) (cond (x1.an.bI==3) (call (Z74.R (x0,x1.an)) fun v8=>(cond (v8==1) (call (Z61.R x1.an) fun v9=>(call (Z66.R (x0.bB,v9,x1.cI)) fun v10=>(cond (!v10) (ret (7:Int)) (ret v8)))) (ret v8))) (cond (v4==1) (call (Z61.R x1.an) fun v11=>(call (Z66.R (x0.bR,v11,x1.cI)) fun v12=>(cond (!v12) (ret (7:Int)) (ret v4)))) (ret v4))))))))))))))
def md (a0:aE)(a1:aa):Int:=(cond (!(Z56.md a0)) (2:Int) (cond (!(Z56.md a1.an)) (2:Int) (cond (a1.an.bw != a0.bw) (3:Int) (cond (a1.an.cM != (i64.wrap (a0.cM+1))) (3:Int) (cond (a1.an.dR != (Z68.md a0)) (3:Int) (cond (a1.an.cL<a0.cL) (3:Int) (cond (a1.an.bI==2) (cond ((Z73.md a0 a1.an)==1) (cond (!(Z66.md a0.bE (Z61.md a1.an) a1.cI)) (7:Int) ((Z73.md a0 a1.an))) ((Z73.md a0 a1.an))) (cond (a1.an.bI==3) (cond ((Z74.md a0 a1.an)==1) (cond (!(Z66.md a0.bB (Z61.md a1.an) a1.cI)) (7:Int) ((Z74.md a0 a1.an))) ((Z74.md a0 a1.an))) (cond ((Z69.md a0 a1.an)==1) (cond (!(Z66.md a0.bR (Z61.md a1.an) a1.cI)) (7:Int) ((Z69.md a0 a1.an))) ((Z69.md a0 a1.an)))))))))))
def gd (a0:aE)(a1:aa):Prop:=(aE.Sm (2^21) a0)/\(aa.Sm (2^21) a1)
def R:=RR (p2 gd) (u2 md)
def aj {a0 a1}(h:gd a0 a1):R ((aE.r a0),(aa.r a1))=some (md a0 a1):=cB h
def aU:=CN [.agg gB,.agg lB] oI RT.dec R
def bh (a0)(a1)(hg:gd a0 a1):F (aE.r a0) (aa.r a1)=ret (md a0 a1):=by
 obtain ⟨H0,H1⟩:=hg
 refine ct (Z56.aj H0) (bs (fun _=>rfl) (fun c1=>?_))
 refine ct (Z56.aj H1.1) (bs (fun _=>rfl) (fun c2=>?_))
 refine bs (fun _=>rfl) (fun c3=>?_)
 refine bs (fun _=>rfl) (fun c4=>?_)
 refine ct (Z68.aj H0) (bs (fun _=>rfl) (fun c5=>?_))
 refine bs (fun _=>rfl) (fun c6=>?_)
 refine ct (Z69.aj trivial) (bs (fun c7=>?_) (fun c7=>?_))
 ·refine ct (Z73.aj ⟨H0,H1.1⟩) (bs (fun c8=>?_) (fun c8=>fz))
  refine ct (Z61.aj H1.1) (ct (Z66.aj ⟨H0.2.1,⟨(have:=Z61.len a1.an;have:=(H1.1.1).1;have:=(H1.1.2.1).1;have:=(H1.1.2.2).1;om),fun _ _=>trivial⟩,H1.2⟩) ?_)
  refine bs (fun _=>rfl) (fun c9=>?_)
  exact fz
 ·refine bs (fun c10=>?_) (fun c10=>?_)
  ·refine ct (Z74.aj ⟨H0,H1.1⟩) (bs (fun c11=>?_) (fun c11=>fz))
   refine ct (Z61.aj H1.1) (ct (Z66.aj ⟨H0.2.2,⟨(have:=Z61.len a1.an;have:=(H1.1.1).1;have:=(H1.1.2.1).1;have:=(H1.1.2.2).1;om),fun _ _=>trivial⟩,H1.2⟩) ?_)
   refine bs (fun _=>rfl) (fun c12=>?_)
   exact fz
  ·refine bs (fun c13=>?_) (fun c13=>fz)
   refine ct (Z61.aj H1.1) (ct (Z66.aj ⟨H0.1,⟨(have:=Z61.len a1.an;have:=(H1.1.1).1;have:=(H1.1.2.1).1;have:=(H1.1.2.2).1;om),fun _ _=>trivial⟩,H1.2⟩) ?_)
   refine bs (fun _=>rfl) (fun c14=>?_)
   exact fz
def af:cC 332 aU:=W2 78 F mix aB bh (zj Z56.af Z68.af Z69.af Z73.af Z61.af Z66.af Z74.af) Tryz.func332
end Z75
namespace Z76
def F (x0:dm)(x1:aY):aI:=(call (Z75.R (x0,x1)) fun v1=>ret ((v1==1)))
def md (a0:aE)(a1:aa):Bool:=(((Z75.md a0 a1)==1))
def gd (a0:aE)(a1:aa):Prop:=(aE.Sm (2^21) a0)/\(aa.Sm (2^21) a1)
def R:=RR (p2 gd) (u2 md)
def aj {a0 a1}(h:gd a0 a1):R ((aE.r a0),(aa.r a1))=some (md a0 a1):=cB h
def aU:=CN [.agg gB,.agg lB] oB RT.dec R
def bh (a0)(a1)(hg:gd a0 a1):F (aE.r a0) (aa.r a1)=ret (md a0 a1):=by
 obtain ⟨H0,H1⟩:=hg
 exact ct (Z75.aj ⟨H0,H1⟩) fz
def af:cC 290 aU:=W2 9 F mix aB bh (cJ Z75.af) Tryz.func290
end Z76
namespace Z77
inductive Pt where
 | p0 (a:aD) (b:Int)
def cG:Pt->List V
 | .p0 a b=>[.sl none 178 a,.int .i64 b]
def step (J:Pt->aI):Pt->aI
 | .p0 a b=>(cond (b<(a.length:Int)) (cond (b==0) (cg ((0:Int)<(a.length:Int)) (call (Z67.R (aY.at a 0)) fun v1=>(cond (!v1) (ret (b:Int)) (cond (b>0) (cg ((0:Int)<=(i64.wrap (b - 1))) (cg ((i64.wrap (b - 1))<(a.length:Int)) (m2 b (a.length:Int) (call (Z76.R ((aY.at a (toNat (i64.wrap (b - 1)))).an,(aY.at a (toNat b)))) fun v2=>(cond (!v2) (ret (b:Int)) (J (.p0 a (i64.wrap (b+1))))))))) (J (.p0 a (i64.wrap (b+1)))))))) (cond (b>0) (cg ((0:Int)<=(i64.wrap (b - 1))) (cg ((i64.wrap (b - 1))<(a.length:Int)) (m2 b (a.length:Int) (call (Z76.R ((aY.at a (toNat (i64.wrap (b - 1)))).an,(aY.at a (toNat b)))) fun v3=>(cond (!v3) (ret (b:Int)) (J (.p0 a (i64.wrap (b+1))))))))) (J (.p0 a (i64.wrap (b+1)))))) (ret ((-1):Int)))
def start (J:Pt->aI)(x0:aD):aI:=J (.p0 x0 0)
def live:Nat->Live:=fL [(2,gA [0,3])]
def md (a0:List aa):Int:=(dV (S:=Unit) (β:=Int) (fun i1 y1 s3=>(cond ((i1:Int)==0) (cond (!(Z67.md (a0.getD 0 aa.zero))) (.inr (i1)) (cond ((i1:Int)>0) (cond (!(Z76.md ((a0.getD (toNat (i64.wrap (i1 - 1))) aa.zero).an) y1)) (.inr (i1)) (.inl ())) (.inl ()))) (cond ((i1:Int)>0) (cond (!(Z76.md ((a0.getD (toNat (i64.wrap (i1 - 1))) aa.zero).an) y1)) (.inr (i1)) (.inl ())) (.inl ())))) (fun s3=>((-1):Int)) 0 a0 ())
def gd (a0:List aa):Prop:=(bO (2^21) (fun y:aa=>aa.Sm (2^21) y) a0)
def R:=RR gd md
def aj {a0}(h:gd a0):R (a0.map aa.row)=some (md a0):=cT h
def aU:=CN [pL 178] oI RT.dec R
def bh (a0)(H0:gd a0):∃n,start (iter step n) (a0.map aa.row)=ret (md a0):=by
 have Bh2:=bl H0
 refine ex_eq (cW (z:=aa.zero)) (dW fz ?_)
 refine cq (pt:=fun (i1:Nat) (s3:Unit)=>Pt.p0 (a0.map aa.row) (i1:Int)) (fun _ _=>True) (fun J i1 s3 h2 hih2=>?_) (fun s3 hih2=>?_) trivial
 ·simp only [step,SS]
  have:=(H0).1
  refine bq.yes dt (bq.bif (fun c4=>?_) (fun c4=>?_))
  ·refine bq.yes dt (cr (Z67.aj (bO.getD H0 (by omega))) ?_)
   refine bq.bif (fun c5=>bq.inr fz) (fun c5=>?_)
   refine bq.bif (fun c6=>?_) (fun c6=>?_)
   ·have dc6:=c6
    simp only [DC] at dc6
    refine bq.yes dt (bq.yes dt ?_)
    refine bq.yes aK (bq.yes (aP h2) ?_)
    refine cr (Z76.aj ⟨(bO.getD H0 (by (simp (disch:=omega) only [wi];omega))).1,(bO.getD H0 h2)⟩) (bq.bif (fun c7=>bq.inr fz) (fun c7=>?_))
    refine bq.inl trivial ?_
    rw [aJ h2 Bh2]
   ·refine bq.inl trivial ?_
    rw [aJ h2 Bh2]
  ·refine bq.bif (fun c8=>?_) (fun c8=>?_)
   ·have dc8:=c8
    simp only [DC] at dc8
    refine bq.yes dt (bq.yes dt ?_)
    refine bq.yes aK (bq.yes (aP h2) ?_)
    refine cr (Z76.aj ⟨(bO.getD H0 (by (simp (disch:=omega) only [wi];omega))).1,(bO.getD H0 h2)⟩) (bq.bif (fun c9=>bq.inr fz) (fun c9=>?_))
    refine bq.inl trivial ?_
    rw [aJ h2 Bh2]
   ·refine bq.inl trivial ?_
    rw [aJ h2 Bh2]
 ·simp only [step,SS]
  refine dH dn (⟨0,?_⟩)
  exact fz
def af:cC 234 aU:=L1 38 (fun _=>2) cG (fun _=>[]) live step start mix aB bh (eM Z67.af Z76.af) Tryz.func234
end Z77
namespace Z78
def F (x0:aD):aI:=(call (Z49.R ((x0.length:Int),1,12)) fun v1=>(cond v1 (call (Z77.R x0) fun v2=>ret ((decide (v2<0)):Bool)) bT))
def md (a0:List aa):Bool:=(cond (Z49.md (a0.length:Int) 1 12) ((decide ((Z77.md a0)<0)):Bool) (false:Bool))
def gd (a0:List aa):Prop:=(bO (2^21) (fun y:aa=>aa.Sm (2^21) y) a0)
def R:=RR gd md
def aj {a0}(h:gd a0):R (a0.map aa.row)=some (md a0):=cT h
def aU:=CN [pL 178] oB RT.dec R
def bh (a0)(hg:gd a0):F (a0.map aa.row)=ret (md a0):=by
 unfold gd at hg
 have H0:=hg
 unfold F md
 try simp only [SS]
 refine ct (Z49.aj trivial) ?_
 refine bt ret (fun c1=>?_) (fun _=>rfl)
 refine ct (Z77.aj H0) ?_
 all_goals exact fz
def af:cC 178 aU:=W1 11 F mix aB bh (eM Z49.af Z77.af) Tryz.func178
def tr {a0:List aa}(h:md a0=true):1<=a0.length/\a0.length<=12:=by simp [md,Z49.md] at h;omega
def rL {l:List aa}(h:md l=true):∀i,i<l.length->Z56.md (l.getD i aa.zero).an=true:=by
 intro i hi
 have hl:=tr h
 have h1:Z77.md l<0:=by
  unfold md at h
  cases hc:Z49.md (l.length:Int) 1 12<;>rw [hc] at h
  ·cases h
  ·simpa using h
 unfold Z77.md at h1
 have h2:=tT (z:=aa.zero) (by
  intro i x s b h
  revert h
  simp only [Bool.cond_eq_ite]
  repeat' split
  all_goals (intro h;first | (cases h;rfl) | cases h)) h1 i hi
 by_cases h0:i=0
 ·subst h0
  cases hf:Z67.md (l.getD 0 aa.zero)
  ·rw [hf] at h2;cases h2
  ·unfold Z67.md at hf
   cases hh:Z56.md (l.getD 0 aa.zero).an
   ·rw [hh] at hf;cases hf
   ·rfl
 ·have e:((i:Int)==0)=false:=beq_eq_false_iff_ne.2 (by omega)
  have e2:decide ((i:Int)>0)=true:=by simpa using by omega
  simp only [e,e2,bg,aZ] at h2
  cases hf:Z76.md ((l.getD (toNat (i64.wrap ((i:Int) - 1))) aa.zero).an) (l.getD i aa.zero)
  ·rw [hf] at h2;cases h2
  ·unfold Z76.md Z75.md at hf
   cases hh:Z56.md (l.getD i aa.zero).an
   ·rw [hh] at hf
    cases hp:Z56.md ((l.getD (toNat (i64.wrap ((i:Int) - 1))) aa.zero).an)<;>rw [hp] at hf<;>cases hf
   ·rfl
def Ck {l:List aa}(h:md l=true):∀i,i<l.length->(l.getD i aa.zero).an.bw=(l.getD 0 aa.zero).an.bw:=by
 have hl:=tr h
 have h1:Z77.md l<0:=by
  unfold md at h
  cases hc:Z49.md (l.length:Int) 1 12<;>rw [hc] at h
  ·cases h
  ·simpa using h
 unfold Z77.md at h1
 have h2:=tT (z:=aa.zero) (by
  intro i x s b h
  revert h
  simp only [Bool.cond_eq_ite]
  repeat' split
  all_goals (intro h;first | (cases h;rfl) | cases h)) h1
 intro i
 induction i with
 | zero=>intro _;rfl
 | succ i ih=>
  intro hi
  have h3:=h2 (i+1) hi
  have e:(((i+1:Nat):Int)==0)=false:=beq_eq_false_iff_ne.2 (by omega)
  have e2:decide (((i+1:Nat):Int)>0)=true:=by simpa using by omega
  have ei:toNat (i64.wrap (((i+1:Nat):Int) - 1))=i:=by simp (disch:=omega) only [wi];omega
  simp only [e,e2,bg,aZ] at h3
  rw [ei] at h3
  cases hf:Z76.md ((l.getD i aa.zero).an) (l.getD (i+1) aa.zero)
  ·rw [hf] at h3;cases h3
  ·unfold Z76.md Z75.md at hf
   cases hz:((l.getD (i+1) aa.zero).an.bw != (l.getD i aa.zero).an.bw)
   ·rw [<-ih (by omega)];exact (by simpa using hz)
   ·rw [hz] at hf
    cases hp:Z56.md (l.getD i aa.zero).an<;>rw [hp] at hf
    ·cases hf
    ·cases hh:Z56.md (l.getD (i+1) aa.zero).an<;>rw [hh] at hf<;>cases hf
end Z78
namespace Z79
def F (x0:aD):aI:=(call (Z78.R x0) fun v1=>(cond (!v1) (ret (((⟨0,0,0,0,0,0,0,0,(⟨[],0⟩:cN),(⟨[],0⟩:cN),0,(⟨[],0⟩:cN),false⟩:dm),false):dm×Bool)) (cg ((0:Int)<=(i64.wrap ((x0.length:Int) - 1))) (cg ((i64.wrap ((x0.length:Int) - 1))<(x0.length:Int)) (call (Z38.R ((aY.at x0 (toNat (i64.wrap ((x0.length:Int) - 1)))).an)) fun v2=>ret ((v2,true):dm×Bool))))))
def md (a0:List aa):aE×Bool:=(cond (!(Z78.md a0)) ((⟨0,0,0,0,0,0,0,0,(⟨[],0⟩:aO),(⟨[],0⟩:aO),0,(⟨[],0⟩:aO),false⟩:aE),false) (((a0.getD (toNat (i64.wrap ((a0.length:Int) - 1))) aa.zero).an),true))
def gd (a0:List aa):Prop:=(bO (2^21) (fun y:aa=>aa.Sm (2^21) y) a0)
def R:=RR gd md
def aj {a0}(h:gd a0):R (a0.map aa.row)=some ((aE.r (md a0).1),(md a0).2):=cT h
def aU:=CN [pL 178] (.iL [(true,f175),(false,[fB])]) RT.dec R
def bh (a0)(hg:gd a0):F (a0.map aa.row)=ret ((aE.r (md a0).1),(md a0).2):=by
 unfold gd at hg
 have H0:=hg
 unfold F md
 try simp only [SS]
 refine ct (Z78.aj H0) ?_
 refine bt (fun b:aE×Bool=>ret (((aE.r b.1),b.2):dm×Bool)) (fun c1=>?_) (fun c1=>?_)
 ·all_goals exact fz
 ·have dc1:=c1
  try simp only [DC] at dc1
  try have tc1:=Z78.tr (by simpa using c1)
  refine ak (have:=(H0).1;dt) ?_
  refine ak (have:=(H0).1;dt) ?_
  refine ct (Z38.aj (bO.getD (z:=aa.zero) H0 (by first | assumption | omega | (simp (disch:=omega) only [wi];omega) | (simp;omega))).1) ?_
  try simp only [SS]
  all_goals exact fz
def af:cC 137 aU:=W1 16 F mix aB bh (eM Z78.af Z38.af) Tryz.func137
def head {l:List aa}(h:(md l).2=true):Z78.md l=true/\(md l).1=(l.getD (l.length - 1) aa.zero).an/\Z56.md (md l).1=true:=by
 unfold md at h ⊢
 cases hc:Z78.md l
 ·rw [hc] at h;cases h
 ·have hl:=Z78.tr hc
  have hw:toNat (i64.wrap ((l.length:Int) - 1))=l.length - 1:=by
   rw [Go.IntWalk.i64_in _ (by omega)];omega
  simp only [Bool.not_true,bg,hw]
  exact ⟨trivial,trivial,Z78.rL hc _ (by omega)⟩
end Z79
namespace Z80
def F (x0:bH):aI:=(cond (x0.bI==1) (call (Z50.R x0.aV) fun v1=>(cond v1 (call (Z49.R (x0.bX,0,999999)) fun v2=>(cond v2 (ret (((x0.bz.length:Int)==0):Bool)) bT)) bT)) (cond (x0.bI==2) (call (Z50.R x0.aV) fun v3=>(cond v3 (call (Z49.R (x0.bX,0,2147483646)) fun v4=>(cond v4 (ret (((x0.bz.length:Int)==0):Bool)) bT)) bT)) (cond (x0.bI==3) (call (Z50.R x0.aV) fun v5=>(cond v5 (call (Z49.R (x0.bX,0,2147483646)) fun v6=>(cond v6 (call (Z51.R x0.bz) fun v7=>ret (v7:Bool)) bT)) bT)) bT)))
def md (a0:ah):Bool:=(cond (a0.bI==1) (cond (Z50.md a0.aV) (cond (Z49.md a0.bX 0 999999) (((a0.bz.length:Int)==0):Bool) (false:Bool)) (false:Bool)) (cond (a0.bI==2) (cond (Z50.md a0.aV) (cond (Z49.md a0.bX 0 2147483646) (((a0.bz.length:Int)==0):Bool) (false:Bool)) (false:Bool)) (cond (a0.bI==3) (cond (Z50.md a0.aV) (cond (Z49.md a0.bX 0 2147483646) ((Z51.md a0.bz):Bool) (false:Bool)) (false:Bool)) (false:Bool))))
def gd (a0:ah):Prop:=(ah.Sm (2^21) a0)
def R:=RR gd md
def aj {a0}(h:gd a0):R (ah.r a0)=some (md a0):=cT h
def aU:=CN [.agg sX] oB RT.dec R
def bh (a0)(hg:gd a0):F (ah.r a0)=ret (md a0):=by
 unfold gd at hg
 have H0:=hg
 unfold F md
 try simp only [SS]
 refine bt ret (fun c1=>?_) (fun c1=>?_)
 ·refine ct (Z50.aj (le_trans H0.1 (by decide))) ?_
  refine bt ret (fun c2=>?_) (fun _=>rfl)
  refine ct (Z49.aj trivial) ?_
  refine bt ret (fun c3=>?_) (fun _=>rfl)
  all_goals exact fz
 ·refine bt ret (fun c4=>?_) (fun c4=>?_)
  ·refine ct (Z50.aj (le_trans H0.1 (by decide))) ?_
   refine bt ret (fun c5=>?_) (fun _=>rfl)
   refine ct (Z49.aj trivial) ?_
   refine bt ret (fun c6=>?_) (fun _=>rfl)
   all_goals exact fz
  ·refine bt ret (fun c7=>?_) (fun _=>rfl)
   refine ct (Z50.aj (le_trans H0.1 (by decide))) ?_
   refine bt ret (fun c8=>?_) (fun _=>rfl)
   refine ct (Z49.aj trivial) ?_
   refine bt ret (fun c9=>?_) (fun _=>rfl)
   refine ct (Z51.aj (H0.2.mono (by decide) (fun x hx=>(le_trans hx (by decide))))) ?_
   all_goals exact fz
def af:cC 260 aU:=W1 52 F mix aB bh (jS Z50.af Z49.af Z51.af) Tryz.func260
end Z80
namespace Z81
def F (x0 x1:aC):aI:=(cond (Op.bytesLess x0.toList x1.toList) (ret ((-1):Int)) (cond (!((Op.bytesLess x0.toList x1.toList)||(x0.toList==x1.toList))) (ret (1:Int)) (ret (0:Int))))
def md (a0 a1:aC):Int:=(cond (Op.bytesLess a0.toList a1.toList) ((-1):Int) (cond (!((Op.bytesLess a0.toList a1.toList)||(a0.toList==a1.toList))) (1:Int) (0:Int)))
def gd (a0 a1:aC):Prop:=True
def R:=RR (p2 gd) (u2 md)
def aj {a0 a1}(h:gd a0 a1):R (a0,a1)=some (md a0 a1):=cB h
def aU:=CN [pS,pS] oI RT.dec R
def bh (a0)(a1)(hg:gd a0 a1):F a0 a1=ret (md a0 a1):=by
 unfold F md
 try simp only [SS]
 refine bt ret (fun _=>rfl) (fun c1=>?_)
 refine bt ret (fun _=>rfl) (fun _=>rfl)
def af:cC 69 aU:=W2 13 F mix aB bh .nil Tryz.func69
def vals (a b:aC):md a b=-1∨md a b=0∨md a b=1:=by
 unfold md
 cases Op.bytesLess a.toList b.toList
 ·cases (!(false||(a.toList==b.toList)))<;>simp
 ·simp
def lt (a b:aC):decide (md a b<0)=(md a b == -1):=by
 rcases vals a b with h | h | h<;>rw [h]<;>rfl
def gt (a b:aC):decide (md a b>0)=(md a b==1):=by
 rcases vals a b with h | h | h<;>rw [h]<;>rfl
def bl:∀a b:List UInt8,(Op.bytesLess a b||a==b)=!(Op.bytesLess b a)
 | [],[]=>by simp [Op.bytesLess]
 | [],_::_=>by simp [Op.bytesLess]
 | _::_,[]=>by simp [Op.bytesLess]
 | a::xs,b::ys=>by
  have ih:=bl xs ys
  simp only [Op.bytesLess]
  by_cases h1:a<b
  ·have h2:¬b<a:=UInt8.not_lt.2 (UInt8.le_of_lt h1)
   have h3:¬b=a:=fun h=>by subst h;exact UInt8.lt_irrefl _ h1
   simp [h1,h2,h3]
  ·by_cases h2:a=b
   ·subst h2
    have hr:¬a<a:=UInt8.lt_irrefl a
    simp only [hr,decide_false,Bool.false_or,beq_self_eq_true,Bool.true_and,List.cons_beq_cons]
    exact ih
   ·have h3:b<a:=by
     rcases UInt8.lt_or_lt_of_ne h2 with h | h
     ·exact (h1 h).elim
     ·exact h
    simp [h1,h2,h3,List.cons_beq_cons]
def swap (a b:aC):decide (md a b<=0)=(md b a != -1):=by
 unfold md
 rw [bl a.toList b.toList,bl b.toList a.toList]
 have h:=bl a.toList b.toList
 cases h1:Op.bytesLess a.toList b.toList<;>cases h2:Op.bytesLess b.toList a.toList<;>rw [h1,h2] at h<;>simp at h ⊢
end Z81
namespace Z82
inductive Pt where
 | p0 (a:aD) (b:Int)
def cG:Pt->List V
 | .p0 a b=>[.sl none 38 a,.int .i64 b]
def step (J:Pt->aI):Pt->aI
 | .p0 a b=>(cond (b<(a.length:Int)) (m2 b (a.length:Int) (call (Z80.R (bH.at a (toNat b))) fun v1=>(cond (!v1) bT (cond (b>0) (cg ((0:Int)<=(i64.wrap (b - 1))) (cg ((i64.wrap (b - 1))<(a.length:Int)) (m2 b (a.length:Int) (call (Z81.R ((bH.at a (toNat (i64.wrap (b - 1)))).aV,(bH.at a (toNat b)).aV)) fun v2=>(cond (v2 != (-1)) bT (J (.p0 a (i64.wrap (b+1))))))))) (J (.p0 a (i64.wrap (b+1)))))))) (ret ((decide ((a.length:Int)<=12)):Bool)))
def start (J:Pt->aI)(x0:aD):aI:=J (.p0 x0 0)
def live:Nat->Live:=fL [(2,gA [0,3])]
def md (a0:List ah):Bool:=(dV (S:=Unit) (β:=Bool) (fun (i1:Nat) (y1:ah) (s3:Unit)=>(cond (!(Z80.md y1)) (.inr (false:Bool)) (cond ((i1:Int)>0) (cond ((Z81.md ((a0.getD (toNat (i64.wrap ((i1:Int) - 1))) ah.zero).aV) (y1.aV)) != (-1)) (.inr (false:Bool)) (.inl ())) (.inl ())))) (fun (s3:Unit)=>((decide ((a0.length:Int)<=12)):Bool)) 0 a0 ())
def gd (a0:List ah):Prop:=(bO (2^21) (fun y:ah=>ah.Sm (2^21) y) a0)
def R:=RR gd md
def aj {a0}(h:gd a0):R (a0.map ah.row)=some (md a0):=cT h
def aU:=CN [pL 38] oB RT.dec R
def bh (a0)(hg:gd a0):∃n,start (iter step n) (a0.map ah.row)=ret (md a0):=by
 unfold gd at hg
 have H0:=hg
 unfold start md
 try simp only [SS]
 have Bh2:a0.length<=maxLen:=(by
   have:=(H0).1
   try simp only [maxLen] at *
   omega)
 refine ex_eq (out:=ret) (cW (z:=ah.zero)) ?_
 refine dW (p:=Pt.p0 (a0.map ah.row) 0) fz ?_
 refine cq (pt:=fun (i1:Nat) (s3:Unit)=>Pt.p0 (a0.map ah.row) (i1:Int)) (s:=(():Unit)) (out:=ret) (fun _ _=>True) (fun J i1 s3 h2 hih2=>?_) (fun s3 hih2=>?_) trivial
 ·simp only [step,SS]
  have bb_:=Bh2
  simp only [maxLen] at bb_
  have:=(H0).1
  refine bq.yes (by apply decide_eq_true;omega) ?_
  refine bq.yes aK ?_
  refine bq.yes (aP h2) ?_
  refine cr (Z80.aj (bO.getD (z:=ah.zero) H0 h2)) ?_
  refine bq.bif (fun _=>bq.inr rfl) (fun c4=>?_)
  have dc4:=c4
  try simp only [DC] at dc4
  refine bq.bif (fun c5=>?_) (fun c5=>?_)
  ·have dc5:=c5
   try simp only [DC] at dc5
   refine bq.yes dt ?_
   refine bq.yes (have:=(H0).1;dt) ?_
   refine bq.yes aK ?_
   refine bq.yes (aP h2) ?_
   refine cr (Z81.aj trivial) ?_
   refine bq.bif (fun _=>bq.inr rfl) (fun c6=>?_)
   refine bq.inl trivial ?_
   rw [aJ h2 Bh2]
   all_goals exact fz
  ·refine bq.inl trivial ?_
   rw [aJ h2 Bh2]
   all_goals exact fz
 ·simp only [step,SS]
  have:=(H0).1
  refine dH (by apply decide_eq_false;omega) ?_
  refine ⟨0,?_⟩
  all_goals exact fz
def af:cC 287 aU:=L1 38 (fun _=>2) cG (fun _=>[]) live step start mix aB bh (eM Z80.af Z81.af) Tryz.func287
end Z82
namespace Z83
inductive Pt where
 | p0 (a:aD) (b:Int) (c:aD)
def cG:Pt->List V
 | .p0 a b c=>[.sl none 5 a,.own 0,.int .i64 b]
def cX:Pt->List aW
 | .p0 a b c=>[.row 3 c]
def step (J:Pt->aI):Pt->aI
 | .p0 a b c=>(cond (b<(a.length:Int)) (m2 b (a.length:Int) (cg (eX (((c.length:Int)+1)*8)) (J (.p0 a (i64.wrap (b+1)) (c++[[L.int (i64.wrap (jG a (toNat b)))]]))))) (ret (c:aD)))
def start (J:Pt->aI)(x0:aD):aI:=J (.p0 x0 0 [[L.int (x0.length:Int)]])
def live:Nat->Live:=fL [(3,gA [0,3,4])]
def md (a0:List Int):List Int:=([(a0.length:Int)]++a0.map (fun (y1:Int)=>(i64.wrap y1)))
def gd (a0:List Int):Prop:=(bO (2^38) (fun y:Int=>True) a0)
def R:=RR gd md
def aj {a0}(h:gd a0):R (a0.map bk)=some ((md a0).map bk):=cT h
def aU:=CN [pL 5] (oL 3) RT.dec R
def bh (a0)(hg:gd a0):∃n,start (iter step n) (a0.map bk)=ret ((md a0).map bk):=by
 unfold gd at hg
 have H0:=hg
 unfold start md
 try simp only [SS]
 have Bh2:a0.length<=maxLen:=(by
   have:=(H0).1
   try simp only [maxLen] at *
   omega)
 refine ex_eq (out:=(fun b:List Int=>ret ((b.map bk):aD))) (nw (g:=fun (y1:Int)=>(i64.wrap y1)) (z:=0) (t:=fun (s3:List Int)=>s3) (s:=[(a0.length:Int)])) ?_
 refine dW (p:=Pt.p0 (a0.map bk) 0 ([(a0.length:Int)].map bk)) fz ?_
 refine cq (pt:=fun (i1:Nat) (s3:List Int)=>Pt.p0 (a0.map bk) (i1:Int) (s3.map bk)) (s:=([(a0.length:Int)]:List Int)) (out:=(fun b:List Int=>ret ((b.map bk):aD))) (fun (i1:Nat) (s3:List Int)=>s3.length<=[(a0.length:Int)].length+1*i1) (fun J i1 s3 h2 hih2=>?_) (fun s3 hih2=>?_) (by simp)
 ·simp only [step,SS]
  have gr_:=hih2
  try simp only [LN] at gr_
  have:=(H0).1
  have bb_:=Bh2
  simp only [maxLen] at bb_
  have:=(H0).1
  refine bq.yes (by apply decide_eq_true;omega) ?_
  refine bq.yes aK ?_
  refine bq.yes (aP h2) ?_
  refine bq.yes lm ?_
  refine bq.inl (by
    have g_:=hih2
    try simp only [LN] at g_ ⊢
    first | omega | (simp;done) | (simp;omega)) ?_
  rw [aJ h2 Bh2]
  all_goals exact fz
 ·simp only [step,SS]
  have gr_:=hih2
  try simp only [LN] at gr_
  have:=(H0).1
  have:=(H0).1
  refine dH (by apply decide_eq_false;omega) ?_
  refine ⟨0,?_⟩
  all_goals exact fz
def af:cC 373 aU:=L1 23 (fun _=>3) cG cX live step start mix aB bh .nil Tryz.func373
def len (a0:List Int):(md a0).length=1+a0.length:=by simp [md];omega
end Z83
namespace Z84
def F (x0:aC):aI:=(cg ((x0.size:Int)<=140737488355328) (call (Z83.R (iR x0)) fun v1=>ret (v1:aD)))
def md (a0:aC):List Int:=(Z83.md (kR a0))
def gd (a0:aC):Prop:=(a0.size<=(2^21))
def R:=RR gd md
def aj {a0}(h:gd a0):R a0=some ((md a0).map bk):=cT h
def aU:=CN [pS] (oL 3) RT.dec R
def bh (a0)(hg:gd a0):F a0=ret ((md a0).map bk):=by
 unfold gd at hg
 have H0:=hg
 refine ak (have:=H0;dt) (aX _ (rq (Z83.aj (a0:=(kR a0)) ⟨(have:=ir a0;have:=H0;om),fun _ _=>trivial⟩)) ?_)
 exact fz
def af:cC 343 aU:=W1 6 F mix aB bh (cJ Z83.af) Tryz.func343
def len (a0:aC):(md a0).length=1+a0.size:=by simp [md,Z83.len,ir]
end Z84
namespace Z85
inductive Pt where
 | p0 (a:Int) (b:bH) (c:aD)
def cG:Pt->List V
 | .p0 a b c=>[.cD 0 0,.own 1,.int .i64 a]
def cX:Pt->List aW
 | .p0 a b c=>[.box [.str b.aV,.int .i64 b.bI,.int .i64 b.bX,.sl none 9 b.bz],.row 3 c]
def step (J:Pt->aI):Pt->aI
 | .p0 a b c=>(cond (a<(b.bz.length:Int)) (m2 a (b.bz.length:Int) (call (Z84.R (qA b.bz (toNat a))) fun v1=>(cg (eX (((c.length:Int)+(v1.length:Int))*8)) (J (.p0 (i64.wrap (a+1)) b (c++v1)))))) (ret (c:aD)))
def start (J:Pt->aI)(x0:bH):aI:=(call (Z84.R x0.aV) fun v1=>(cg (eX (((v1.length:Int)+3)*8)) (J (.p0 0 x0 (v1++[[L.int x0.bI],[L.int x0.bX],[L.int (x0.bz.length:Int)]])))))
def live:Nat->Live:=fL [(3,gA [1,3,4])]
def md (a0:ah):List Int:=(((Z84.md a0.aV)++[a0.bI,a0.bX,(a0.bz.length:Int)])++a0.bz.flatMap (fun (y1:aC)=>(Z84.md y1)))
def gd (a0:ah):Prop:=(ah.Sm (2^21) a0)
def R:=RR gd md
def aj {a0}(h:gd a0):R (ah.r a0)=some ((md a0).map bk):=cT h
def aU:=CN [.agg sX] (oL 3) RT.dec R
def bh (a0)(hg:gd a0):∃n,start (iter step n) (ah.r a0)=ret ((md a0).map bk):=by
 unfold gd at hg
 have H0:=hg
 unfold start md
 try simp only [SS]
 refine cx (Z84.aj H0.1) ?_
 try simp only [SS]
 refine dQ (have:=Z84.len a0.aV;have:=H0.1;lm) ?_
 have Bh2:a0.bz.length<=maxLen:=(by
   have:=(H0.2).1
   try simp only [maxLen] at *
   omega)
 refine ex_eq (out:=(fun b:List Int=>ret ((b.map bk):aD))) (rK (g:=fun (y1:aC)=>(Z84.md y1)) (z:=⟨#[]⟩) (t:=fun (s3:List Int)=>s3) (s:=((Z84.md a0.aV)++[a0.bI,a0.bX,(a0.bz.length:Int)]))) ?_
 refine dW (p:=Pt.p0 0 (ah.r a0) (((Z84.md a0.aV)++[a0.bI,a0.bX,(a0.bz.length:Int)]).map bk)) fz ?_
 refine cq (pt:=fun (i1:Nat) (s3:List Int)=>Pt.p0 (i1:Int) (ah.r a0) (s3.map bk)) (s:=(((Z84.md a0.aV)++[a0.bI,a0.bX,(a0.bz.length:Int)]):List Int)) (out:=(fun b:List Int=>ret ((b.map bk):aD))) (fun (i1:Nat) (s3:List Int)=>s3.length<=4+a0.aV.size+i1*(2^21+1)) (fun J i1 s3 h2 hih2=>?_) (fun s3 hih2=>?_) (by
   have:=(H0.2).1
   have:=Z84.len a0.aV
   have:=H0.1
   try simp only [LN]
   try simp
   try omega)
 ·simp only [step,SS]
  have gr_:=hih2
  try simp only [LN] at gr_
  have:=H0.1
  have bb_:=Bh2
  simp only [maxLen] at bb_
  have:=(H0.2).1
  refine bq.yes (by apply decide_eq_true;omega) ?_
  refine bq.yes aK ?_
  refine bq.yes (aP h2) ?_
  refine cr (Z84.aj (bO.getD (z:=⟨#[]⟩) H0.2 h2)) ?_
  try simp only [SS]
  refine bq.yes (have:=Z84.len (a0.bz.getD i1 ⟨#[]⟩);have:=(bO.getD (z:=⟨#[]⟩) H0.2 h2);lm) ?_
  refine bq.inl (by
    have:=Z84.len (a0.bz.getD i1 ⟨#[]⟩)
    have:=(bO.getD (z:=⟨#[]⟩) H0.2 h2)
    have g_:=hih2
    try simp only [LN] at g_ ⊢
    first | omega | (simp;done) | (simp;omega)) ?_
  rw [aJ h2 Bh2]
  all_goals exact fz
 ·simp only [step,SS]
  have gr_:=hih2
  try simp only [LN] at gr_
  have:=H0.1
  have:=(H0.2).1
  refine dH (by apply decide_eq_false;omega) ?_
  refine ⟨0,?_⟩
  all_goals exact fz
def af:cC 312 aU:=L1 33 (fun _=>3) cG cX live step start mix aB bh (cJ Z84.af) Tryz.func312
def iF {a0:ah}(hg:gd a0):bO (2^43 - 1) (fun y:Int=>True) (md a0):=by
 unfold gd at hg
 refine ⟨?_,fun _ _=>trivial⟩
 unfold md
 have h1:=mL (xs:=a0.bz) (g:=fun y=>Z84.md y) (n:=2^21+1) (fun x hx=>by rw [Z84.len];have:=hg.2.2 x hx;omega)
 have h2:=hg.1
 have h3:=hg.2.1
 have h4:=Z84.len a0.aV
 simp only [List.length_append,List.length_cons,List.length_nil]
 omega
end Z85
namespace Z86
def F (x0:bH):aI:=(call (Z85.R x0) fun v1=>(cg (eX (((1:Int)+v1.length)*8)) (call (Z59.R ([[L.int 227]]++v1)) fun v2=>ret v2)))
def md (a0:ah):Int:=((Z59.md ([227]++(Z85.md a0))))
def gd (a0:ah):Prop:=(ah.Sm (2^21) a0)
def R:=RR gd md
def aj {a0}(h:gd a0):R (ah.r a0)=some (md a0):=cT h
def aU:=CN [.agg sX] oI RT.dec R
def bh (a0)(H0:gd a0):F (ah.r a0)=ret (md a0):=by
 refine ct (Z85.aj H0) (ak (have:=((Z85.iF H0)).1;lm) ?_)
 exact aX _ (rq (Z59.aj (a0:=([227]++(Z85.md a0))) ⟨(have:=((Z85.iF H0)).1;om),fun _ _=>trivial⟩)) fz
def af:cC 259 aU:=W1 8 F mix aB bh (eM Z85.af Z59.af) Tryz.func259
end Z86
namespace Z87
inductive Pt where
 | p0 (a:aD) (b:Int) (c:aD)
def cG:Pt->List V
 | .p0 a b c=>[.sl none 38 a,.own 0,.int .i64 b]
def cX:Pt->List aW
 | .p0 a b c=>[.row 3 c]
def step (J:Pt->aI):Pt->aI
 | .p0 a b c=>(cond (b<(a.length:Int)) (m2 b (a.length:Int) (call (Z86.R (bH.at a (toNat b))) fun v1=>(cg (eX (((c.length:Int)+1)*8)) (J (.p0 a (i64.wrap (b+1)) (c++[[L.int v1]])))))) (ret (c:aD)))
def start (J:Pt->aI)(x0:aD):aI:=J (.p0 x0 0 [])
def live:Nat->Live:=fL [(3,[(0,none),(3,some 3),(4,none)])]
def md (a0:List ah):List Int:=(a0.map (fun (y1:ah)=>(Z86.md y1)))
def gd (a0:List ah):Prop:=(bO (2^21) (fun y:ah=>ah.Sm (2^21) y) a0)
def R:=RR gd md
def aj {a0}(h:gd a0):R (a0.map ah.row)=some ((md a0).map bk):=cT h
def aU:=CN [pL 38] (oL 3) RT.dec R
def bh (a0)(hg:gd a0):∃n,start (iter step n) (a0.map ah.row)=ret ((md a0).map bk):=by
 unfold gd at hg
 have H0:=hg
 unfold start md
 try simp only [SS]
 have Bh2:a0.length<=maxLen:=(by
   have:=(H0).1
   try simp only [maxLen] at *
   omega)
 refine ex_eq (out:=(fun b:List Int=>ret ((b.map bk):aD))) (oE (g:=fun (y1:ah)=>(Z86.md y1)) (z:=ah.zero) (t:=fun (s3:List Int)=>s3)) ?_
 refine dW (p:=Pt.p0 (a0.map ah.row) 0 ([].map bk)) fz ?_
 refine cq (pt:=fun (i1:Nat) (s3:List Int)=>Pt.p0 (a0.map ah.row) (i1:Int) (s3.map bk)) (s:=([]:List Int)) (out:=(fun b:List Int=>ret ((b.map bk):aD))) (fun (i1:Nat) (s3:List Int)=>s3.length<=([]:List Int).length+1*i1) (fun J i1 s3 h2 hih2=>?_) (fun s3 hih2=>?_) (by simp)
 ·simp only [step,SS]
  have gr_:=hih2
  try simp only [LN] at gr_
  have bb_:=Bh2
  simp only [maxLen] at bb_
  have:=(H0).1
  refine bq.yes (by apply decide_eq_true;omega) ?_
  refine bq.yes aK ?_
  refine bq.yes (aP h2) ?_
  refine cr (Z86.aj (bO.getD (z:=ah.zero) H0 h2)) ?_
  refine bq.yes lm ?_
  refine bq.inl (by
    have g_:=hih2
    try simp only [LN] at g_ ⊢
    first | omega | (simp;done) | (simp;omega)) ?_
  rw [aJ h2 Bh2]
  all_goals exact fz
 ·simp only [step,SS]
  have gr_:=hih2
  try simp only [LN] at gr_
  have:=(H0).1
  refine dH (by apply decide_eq_false;omega) ?_
  refine ⟨0,?_⟩
  all_goals exact fz
def af:cC 286 aU:=L1 21 (fun _=>3) cG cX live step start mix aB bh (cJ Z86.af) Tryz.func286
def len (a0:List ah):(md a0).length=a0.length:=by simp [md]
end Z87
namespace Z88
def F (x0 x1:Int):aI:=(call (Z59.R [[L.int 229],[L.int x0],[L.int x1]]) fun v1=>ret v1)
def md (a0 a1:Int):Int:=((Z59.md [229,a0,a1]))
def gd (a0 a1:Int):Prop:=True
def R:=RR (p2 gd) (u2 md)
def aj {a0 a1}(h:gd a0 a1):R (a0,a1)=some (md a0 a1):=cB h
def aU:=CN [pI,pI] oI RT.dec R
def bh (a0)(a1)(hg:gd a0 a1):F a0 a1=ret (md a0 a1):=aX _ (rq (Z59.aj (a0:=[229,a0,a1]) ⟨(om),fun _ _=>trivial⟩)) fz
def af:cC 310 aU:=W2 9 F mix aB bh (cJ Z59.af) Tryz.func310
end Z88
namespace Z89
inductive Pt where
 | p0 (a:aD) (b:Int) (c:aD)
def cG:Pt->List V
 | .p0 a b c=>[.sl none 3 a,.own 0,.int .i64 b]
def cX:Pt->List aW
 | .p0 a b c=>[.row 3 c]
def step (J:Pt->aI):Pt->aI
 | .p0 a b c=>(cond (b<(a.length:Int)) (cond ((i64.wrap (b+1))<(a.length:Int)) (m2 b (a.length:Int) (cg ((0:Int)<=(i64.wrap (b+1))) (cg ((i64.wrap (b+1))<(a.length:Int)) (call (Z88.R ((jG a (toNat b)),(jG a (toNat (i64.wrap (b+1)))))) fun v1=>(cg (eX (((c.length:Int)+1)*8)) (J (.p0 a (i64.wrap (b+2)) (c++[[L.int v1]])))))))) (m2 b (a.length:Int) (cg (eX (((c.length:Int)+1)*8)) (J (.p0 a (i64.wrap (b+2)) (c++[[L.int (jG a (toNat b))]])))))) (ret (c:aD)))
def start (J:Pt->aI)(x0:aD):aI:=J (.p0 x0 0 [])
def live:Nat->Live:=fL [(3,[(0,none),(3,some 3),(4,none)])]
def up:List Int->List Int
 | []=>[]
 | [a]=>[a]
 | a::b::r=>Z88.md a b::up r
def kS:∀l:List Int,(up l).length=(l.length+1) / 2
 | []=>by simp [up]
 | [_]=>by simp [up]
 | _::_::r=>by
  have:=kS r
  simp only [up,List.length_cons]
  omega
def md (a0:List Int):List Int:=up a0
def gd (a0:List Int):Prop:=bO (2^38) (fun y:Int=>True) a0
def R:=RR gd md
def aj {a0}(h:gd a0):R (a0.map bk)=some ((md a0).map bk):=cT h
def aU:=CN [pL 3] (oL 3) RT.dec R
def bh (a0)(hg:gd a0):∃n,start (iter step n) (a0.map bk)=ret ((md a0).map bk):=by
 obtain ⟨H1,_⟩:=hg
 have key:∀(k i:Nat) (c:List Int),i+k=a0.length->c.length<=i->∃n,iter step n (Pt.p0 (a0.map bk) (i:Int) (c.map bk))=ret ((c++up (a0.drop i)).map bk:aD):=by
  intro k
  induction k using Nat.strongRecOn with
  | _ k ih=>
  intro i c hi hc
  match k,hi,ih with
  | 0,hi,_=>
   refine ⟨1,?_⟩
   show step (iter step 0) (Pt.p0 _ _ _)=_
   simp only [step,List.length_map]
   refine cY (decide_eq_false (by omega)) ?_
   rw [List.drop_eq_nil_of_le (by omega)]
   simp only [up,List.append_nil]
  | 1,hi,ih=>
   obtain ⟨n,hn⟩:=ih 0 (by omega) (i+1) (c++[a0.getD i 0]) (by omega) (by simp;omega)
   have h2:∃n,iter step n (Pt.p0 (a0.map bk) (i64.wrap ((i:Int)+2)) ((c++[a0.getD i 0]).map bk))=ret ((c++[a0.getD i 0]).map bk:aD):=by
    refine ⟨1,?_⟩
    show step (iter step 0) (Pt.p0 _ _ _)=_
    simp only [step,List.length_map]
    refine cY (decide_eq_false ?_) rfl
    rw [Go.IntWalk.i64_in _ (by omega)];omega
   obtain ⟨n,hn⟩:=h2
   refine ⟨n+1,?_⟩
   show step (iter step n) (Pt.p0 _ _ _)=_
   simp only [step,List.length_map,dw,iw]
   refine ak (decide_eq_true (by omega)) (cY (decide_eq_false ?_) (ak (decide_eq_true (by omega)) (ak (decide_eq_true (by omega)) (ak (iJ (by omega)) ?_))))
   ·rw [Go.IntWalk.i64_in _ (by omega)];omega
   ·rw [List.map_append] at hn
    refine Eq.trans hn ?_
    rw [List.drop_eq_getElem_cons (by omega),List.drop_eq_nil_of_le (by omega),eV (by omega:i<a0.length)]
    simp only [up,List.map_append]
  | k+2,hi,ih=>
   obtain ⟨n,hn⟩:=ih k (by omega) (i+2) (c++[Z88.md (a0.getD i 0) (a0.getD (i+1) 0)]) (by omega) (by simp;omega)
   refine ⟨n+1,?_⟩
   show step (iter step n) (Pt.p0 _ _ _)=_
   have w1:i64.wrap ((i:Int)+1)=((i+1:Nat):Int):=by rw [Go.IntWalk.i64_in _ (by omega)];omega
   have w2:i64.wrap ((i:Int)+2)=((i+2:Nat):Int):=by rw [Go.IntWalk.i64_in _ (by omega)];omega
   simp only [step,List.length_map,w1,w2,dw,iw]
   refine ak (decide_eq_true (by omega)) (ak (decide_eq_true (by omega)) (ak (decide_eq_true (by omega)) (ak (decide_eq_true (by omega)) (ak (decide_eq_true (by omega)) (ak (decide_eq_true (by omega)) ?_)))))
   refine aX _ (Z88.aj trivial) (ak (iJ (by omega)) ?_)
   rw [List.map_append] at hn
   refine Eq.trans hn ?_
   rw [List.drop_eq_getElem_cons (by omega:i<a0.length),List.drop_eq_getElem_cons (by omega:i+1<a0.length),eV (by omega:i<a0.length),eV (by omega:i+1<a0.length)]
   simp only [up,List.append_assoc,List.cons_append,List.nil_append]
 have:=key a0.length 0 [] (by omega) (by simp)
 unfold start md
 simpa using this
def af:cC 328 aU:=L1 38 (fun _=>3) cG cX live step start mix aB bh (cJ Z88.af) Tryz.func328
end Z89
namespace Z90
inductive Pt where
 | p0 (a:aD)
 | p1 (a:aD)
def cG:Pt->List V
 | .p0 a=>[.sl none 3 a]
 | .p1 a=>[.own 0]
def cX:Pt->List aW
 | .p0 a=>[]
 | .p1 a=>[.row 3 a]
def step (J:Pt->aI):Pt->aI
 | .p0 a=>(cond ((a.length:Int)>1) (call (Z89.R a) fun v1=>J (.p1 v1)) (cg ((0:Int)<(a.length:Int)) (ret ((jG a 0):Int))))
 | .p1 a=>(cond ((a.length:Int)>1) (call (Z89.R a) fun v1=>J (.p1 v1)) (cg ((0:Int)<(a.length:Int)) (ret ((jG a 0):Int))))
def start (J:Pt->aI)(x0:aD):aI:=(cond ((x0.length:Int)==0) (call (Z59.R [[L.int 229]]) fun v1=>ret (v1:Int)) (J (.p0 x0)))
def live:Nat->Live:=fL [(4,[(3,none)])]
def top:Nat->List Int->Int
 | 0,l=>l.getD 0 0
 | k+1,l=>if l.length>1 then top k (Z89.up l) else l.getD 0 0
def md (a0:List Int):Int:=(if a0.length=0 then Z59.md [229] else top a0.length a0)
def gd (a0:List Int):Prop:=bO (2^38) (fun y:Int=>True) a0
def R:=RR gd md
def aj {a0}(h:gd a0):R (a0.map bk)=some (md a0):=cT h
def aU:=CN [pL 3] oI RT.dec R
def bh (a0)(hg:gd a0):∃n,start (iter step n) (a0.map bk)=ret (md a0):=by
 have one:∀(l:List Int) (r:Int) (n:Nat),bO (2^38) (fun y:Int=>True) l->0<l.length->(if l.length>1 then iter step n (Pt.p1 ((Z89.up l).map bk))=ret r else ret (l.getD 0 0:Int)=ret r)->step (iter step n) (Pt.p0 (l.map bk))=ret r/\step (iter step n) (Pt.p1 (l.map bk))=ret r:=by
  intro l r n hl hp h
  simp only [step,List.length_map,iw]
  by_cases h1:l.length>1
  ·rw [if_pos h1] at h
   have hx:∀y:aI,(cond ((l.length:Int)>1) (call (Z89.R (l.map bk)) (fun v1=>iter step n (Pt.p1 v1))) y)=ret r:=fun y=>
    ak (decide_eq_true (by omega)) (aX ((Z89.up l).map bk) (Z89.aj hl) h)
   exact ⟨hx _,hx _⟩
  ·rw [if_neg h1] at h
   have hx:∀y:aI,(cond ((l.length:Int)>1) y (cond ((0:Int)<(l.length:Int)) (ret (l.getD 0 0:Int)) none))=ret r:=fun y=>
    cY (decide_eq_false (by omega)) (ak (decide_eq_true (by omega)) h)
   exact ⟨hx _,hx _⟩
 have key:∀(k:Nat) (l:List Int),bO (2^38) (fun y:Int=>True) l->0<l.length->l.length<=k+1->∃n,step (iter step n) (Pt.p0 (l.map bk))=ret (top k l)/\step (iter step n) (Pt.p1 (l.map bk))=ret (top k l):=by
  intro k
  induction k with
  | zero=>
   intro l hl hp hk
   exact ⟨0,one l _ 0 hl hp (by rw [if_neg (by omega)];rfl)⟩
  | succ k ih=>
   intro l hl hp hk
   by_cases h1:l.length>1
   ·have hu:=Z89.kS l
    have hl1:=hl.1
    obtain ⟨n,_,hn⟩:=ih (Z89.up l) ⟨by omega,fun _ _=>trivial⟩ (by omega) (by omega)
    refine ⟨n+1,one l _ (n+1) hl hp ?_⟩
    rw [if_pos h1]
    refine Eq.trans hn ?_
    unfold top
    rw [if_pos h1]
    cases k<;>rfl
   ·refine ⟨0,one l _ 0 hl hp ?_⟩
    rw [if_neg h1]
    unfold top
    rw [if_neg h1]
 unfold md
 unfold start
 simp only [List.length_map]
 by_cases h0:a0.length=0
 ·have e:((a0.length:Int)==0)=true:=by simpa using List.length_eq_zero_iff.1 h0
  refine ⟨0,?_⟩
  rw [e]
  refine aX (Z59.md [229]) (Z59.aj (a0:=[229]) ⟨by decide,fun _ _=>trivial⟩) ?_
  rw [if_pos h0]
 ·have e:((a0.length:Int)==0)=false:=beq_eq_false_iff_ne.2 (by omega)
  obtain ⟨n,hn,_⟩:=key a0.length a0 hg (by omega) (by omega)
  refine ⟨n+1,?_⟩
  rw [e,if_neg h0]
  exact hn
def af:cC 314 aU:=L1 18 (fun _=>4) cG cX live step start mix aB bh (eM Z59.af Z89.af) Tryz.func314
end Z90
namespace Z91
def F (x0 x1:Int):aI:=(call (Z59.R [[L.int 231],[L.int x0],[L.int x1]]) fun v1=>ret v1)
def md (a0 a1:Int):Int:=((Z59.md [231,a0,a1]))
def gd (a0 a1:Int):Prop:=True
def R:=RR (p2 gd) (u2 md)
def aj {a0 a1}(h:gd a0 a1):R (a0,a1)=some (md a0 a1):=cB h
def aU:=CN [pI,pI] oI RT.dec R
def bh (a0)(a1)(hg:gd a0 a1):F a0 a1=ret (md a0 a1):=aX _ (rq (Z59.aj (a0:=[231,a0,a1]) ⟨(om),fun _ _=>trivial⟩)) fz
def af:cC 261 aU:=W2 9 F mix aB bh (cJ Z59.af) Tryz.func261
end Z91
namespace Z92
def F (x0:aD):aI:=(call (Z87.R x0) fun v1=>(call (Z90.R v1) fun v2=>(call (Z91.R (x0.length,v2)) fun v3=>ret v3)))
def md (a0:List ah):Int:=((Z91.md a0.length (Z90.md (Z87.md a0))))
def gd (a0:List ah):Prop:=(bO (2^21) (fun y:ah=>ah.Sm (2^21) y) a0)
def R:=RR gd md
def aj {a0}(h:gd a0):R (a0.map ah.row)=some (md a0):=cT h
def aU:=CN [pL 38] oI RT.dec R
def bh (a0)(H0:gd a0):F (a0.map ah.row)=ret (md a0):=by
 refine ct (Z87.aj H0) ?_
 simp only [SS]
 refine ct (Z90.aj ⟨(have:=Z87.len a0;have:=(H0).1;om),fun _ _=>trivial⟩) (ct (Z91.aj trivial) ?_)
 exact fz
def af:cC 264 aU:=W1 9 F mix aB bh (jS Z87.af Z90.af Z91.af) Tryz.func264
end Z92
namespace Z93
def F (x0:Int)(x1:aD):aI:=(call (Z82.R x1) fun v1=>(cond v1 (call (Z92.R x1) fun v2=>ret ((v2==x0))) (ret false)))
def md (a0:Int)(a1:List ah):Bool:=(cond (Z82.md a1) (((Z92.md a1)==a0)) false)
def gd (a0:Int)(a1:List ah):Prop:=(bO (2^21) (fun y:ah=>ah.Sm (2^21) y) a1)
def R:=RR (p2 gd) (u2 md)
def aj {a0 a1}(h:gd a0 a1):R (a0,(a1.map ah.row))=some (md a0 a1):=cB h
def aU:=CN [pI,pL 38] oB RT.dec R
def bh (a0)(a1)(H1:gd a0 a1):F a0 (a1.map ah.row)=ret (md a0 a1):=by
 refine ct (Z82.aj H1) (bs (fun c1=>?_) (fun _=>rfl))
 exact ct (Z92.aj H1) fz
def af:cC 284 aU:=W2 13 F mix aB bh (eM Z82.af Z92.af) Tryz.func284
end Z93
namespace Z94
def F (x0:fq):aI:=(call (Z79.R x0.aT) fun v1=>(cond v1.2 (cond (v1.1.cA==x0.ck.length) (call (Z93.R (v1.1.dy,x0.ck)) fun v2=>ret v2) (ret false)) (ret false)))
def md (a0:bD):Bool:=(cond ((Z79.md a0.aT).2) (cond ((Z79.md a0.aT).1.cA==a0.ck.length) ((Z93.md ((Z79.md a0.aT).1.dy) a0.ck)) false) false)
def gd (a0:bD):Prop:=(bD.Sm (2^21) a0)
def R:=RR gd md
def aj {a0}(h:gd a0):R (bD.r a0)=some (md a0):=cT h
def aU:=CN [.agg xq] oB RT.dec R
def bh (a0)(H0:gd a0):F (bD.r a0)=ret (md a0):=by
 refine ct (Z79.aj H0.1) ?_
 simp only [SS]
 refine bs (fun c1=>?_) (fun _=>rfl)
 refine bs (fun c2=>?_) (fun _=>rfl)
 exact ct (Z93.aj H0.2) fz
def af:cC 230 aU:=W1 27 F mix aB bh (eM Z79.af Z93.af) Tryz.func230
end Z94
namespace Z95
def F (x0:fq):aI:=(call (Z79.R x0.aT) fun v1=>(call (Z94.R x0) fun v2=>(cond (!v2) (ret ((-1):Int)) (ret v1.1.bw))))
def md (a0:bD):Int:=(cond (!(Z94.md a0)) ((-1):Int) ((Z79.md a0.aT).1.bw))
def gd (a0:bD):Prop:=(bD.Sm (2^21) a0)
def R:=RR gd md
def aj {a0}(h:gd a0):R (bD.r a0)=some (md a0):=cT h
def aU:=CN [.agg xq] oI RT.dec R
def bh (a0)(H0:gd a0):F (bD.r a0)=ret (md a0):=by
 refine ct (Z79.aj H0.1) (ct (Z94.aj H0) ?_)
 refine bs (fun _=>rfl) (fun c1=>?_)
 exact fz
def af:cC 229 aU:=W1 16 F mix aB bh (eM Z79.af Z94.af) Tryz.func229
end Z95
namespace Z96
inductive Pt where
 | p0 (a b:Int) (c:ec)
def cG:Pt->List V
 | .p0 a b c=>[.int .i64 a,.cD 0 0,.int .i64 b]
def cX:Pt->List aW
 | .p0 a b c=>[.box [.sl none 215 c.bQ,.int .i64 c.jz]]
def step (J:Pt->aI):Pt->aI
 | .p0 a b c=>(cond (b<(c.bQ.length:Int)) (m2 b (c.bQ.length:Int) (call (Z95.R (fq.at c.bQ (toNat b))) fun v1=>(cond (v1==a) (cond (a>=0) (ret (b:Int)) (J (.p0 a (i64.wrap (b+1)) c))) (J (.p0 a (i64.wrap (b+1)) c))))) (ret ((-1):Int)))
def start (J:Pt->aI)(x0:ec)(x1:Int):aI:=J (.p0 x1 0 x0)
def live:Nat->Live:=fL [(2,gA [1,2,5])]
def md (a0:aR)(a1:Int):Int:=(dV (S:=Unit) (β:=Int) (fun (i1:Nat) (y1:bD) (s3:Unit)=>(cond ((Z95.md y1)==a1) (cond (a1>=0) (.inr ((i1:Int):Int)) (.inl ())) (.inl ()))) (fun (s3:Unit)=>((-1):Int)) 0 a0.bQ ())
def gd (a0:aR)(a1:Int):Prop:=(aR.Sm (2^21) a0)
def R:=RR (p2 gd) (u2 md)
def aj {a0 a1}(h:gd a0 a1):R ((aR.r a0),a1)=some (md a0 a1):=cB h
def aU:=CN [.agg BG,pI] oI RT.dec R
def bh (a0)(a1)(hg:gd a0 a1):∃n,start (iter step n) (aR.r a0) a1=ret (md a0 a1):=by
 unfold gd at hg
 have H0:=hg
 unfold start md
 try simp only [SS]
 have Bh2:a0.bQ.length<=maxLen:=(by
   have:=(H0).1
   try simp only [maxLen] at *
   omega)
 refine ex_eq (out:=ret) (cW (z:=bD.zero)) ?_
 refine dW (p:=Pt.p0 a1 0 (aR.r a0)) fz ?_
 refine cq (pt:=fun (i1:Nat) (s3:Unit)=>Pt.p0 a1 (i1:Int) (aR.r a0)) (s:=(():Unit)) (out:=ret) (fun _ _=>True) (fun J i1 s3 h2 hih2=>?_) (fun s3 hih2=>?_) trivial
 ·simp only [step,SS]
  have bb_:=Bh2
  simp only [maxLen] at bb_
  have:=(H0).1
  refine bq.yes (by apply decide_eq_true;omega) ?_
  refine bq.yes aK ?_
  refine bq.yes (aP h2) ?_
  refine cr (Z95.aj (bO.getD (z:=bD.zero) H0 h2)) ?_
  refine bq.bif (fun c4=>?_) (fun c4=>?_)
  ·refine bq.bif (fun c5=>?_) (fun c5=>?_)
   ·refine bq.inr ?_
    all_goals exact fz
   ·refine bq.inl trivial ?_
    rw [aJ h2 Bh2]
    all_goals exact fz
  ·refine bq.inl trivial ?_
   rw [aJ h2 Bh2]
   all_goals exact fz
 ·simp only [step,SS]
  have:=(H0).1
  refine dH (by apply decide_eq_false;omega) ?_
  refine ⟨0,?_⟩
  all_goals exact fz
def af:cC 176 aU:=L2 26 (fun _=>2) cG cX live step start mix aB bh (cJ Z95.af) Tryz.func176
def fa (a0:aR)(a1:Int):-1<=md a0 a1/\md a0 a1<(a0.bQ.length:Int):=by
 unfold md
 refine gG ?_ _ _
 all_goals
  intro i x s b h
  revert h
  simp only [Bool.cond_eq_ite]
  repeat' split
  all_goals (intro h;first | (cases h;rfl) | cases h)
end Z96
namespace Z97
inductive Pt where
 | p0 (a:aD) (b:aC) (c:Int)
def cG:Pt->List V
 | .p0 a b c=>[.sl none 38 a,.str b,.int .i64 c]
def step (J:Pt->aI):Pt->aI
 | .p0 a b c=>(cond (c<(a.length:Int)) (m2 c (a.length:Int) (cond ((bH.at a (toNat c)).aV==b) (ret (c:Int)) (J (.p0 a b (i64.wrap (c+1)))))) (ret ((-1):Int)))
def start (J:Pt->aI)(x0:aD)(x1:aC):aI:=J (.p0 x0 x1 0)
def live:Nat->Live:=fL [(2,gA [0,1,5])]
def md (a0:List ah)(a1:aC):Int:=(dV (S:=Unit) (β:=Int) (fun (i1:Nat) (y1:ah) (s3:Unit)=>(cond (y1.aV==a1) (.inr ((i1:Int):Int)) (.inl ()))) (fun (s3:Unit)=>((-1):Int)) 0 a0 ())
def gd (a0:List ah)(a1:aC):Prop:=(bO (2^21) (fun y:ah=>ah.Sm (2^21) y) a0)
def R:=RR (p2 gd) (u2 md)
def aj {a0 a1}(h:gd a0 a1):R ((a0.map ah.row),a1)=some (md a0 a1):=cB h
def aU:=CN [pL 38,pS] oI RT.dec R
def bh (a0)(a1)(hg:gd a0 a1):∃n,start (iter step n) (a0.map ah.row) a1=ret (md a0 a1):=by
 unfold gd at hg
 have H0:=hg
 unfold start md
 try simp only [SS]
 have Bh2:a0.length<=maxLen:=(by
   have:=(H0).1
   try simp only [maxLen] at *
   omega)
 refine ex_eq (out:=ret) (cW (z:=ah.zero)) ?_
 refine dW (p:=Pt.p0 (a0.map ah.row) a1 0) fz ?_
 refine cq (pt:=fun (i1:Nat) (s3:Unit)=>Pt.p0 (a0.map ah.row) a1 (i1:Int)) (s:=(():Unit)) (out:=ret) (fun _ _=>True) (fun J i1 s3 h2 hih2=>?_) (fun s3 hih2=>?_) trivial
 ·simp only [step,SS]
  have bb_:=Bh2
  simp only [maxLen] at bb_
  have:=(H0).1
  refine bq.yes (by apply decide_eq_true;omega) ?_
  refine bq.yes aK ?_
  refine bq.yes (aP h2) ?_
  refine bq.bif (fun c4=>?_) (fun c4=>?_)
  ·refine bq.inr ?_
   all_goals exact fz
  ·refine bq.inl trivial ?_
   rw [aJ h2 Bh2]
   all_goals exact fz
 ·simp only [step,SS]
  have:=(H0).1
  refine dH (by apply decide_eq_false;omega) ?_
  refine ⟨0,?_⟩
  all_goals exact fz
def af:cC 231 aU:=L2 20 (fun _=>2) cG (fun _=>[]) live step start mix aB bh .nil Tryz.func231
def fa (a0:List ah)(a1:aC):-1<=md a0 a1/\md a0 a1<(a0.length:Int):=by
 unfold md
 refine gG ?_ _ _
 all_goals
  intro i x s b h
  revert h
  simp only [Bool.cond_eq_ite]
  repeat' split
  all_goals (intro h;first | (cases h;rfl) | cases h)
end Z97
namespace Z98
inductive Pt where
 | p0 (a:Int) (b c:aD)
 | p1 (a:Int) (b c:aD)
def cG:Pt->List V
 | .p0 a b c=>[.int .i64 a,.own 0,.sl none 3 b]
 | .p1 a b c=>[.int .i64 a,.own 0,.own 1]
def cX:Pt->List aW
 | .p0 a b c=>[.row 3 c]
 | .p1 a b c=>[.row 3 b,.row 3 c]
def step (J:Pt->aI):Pt->aI
 | .p0 a b c=>(cond ((b.length:Int)>1) (cond ((i64.wrap ((i64.wrap (a+1)) - (i64.wrap (2*(Int.tmod a 2)))))<(b.length:Int)) (cg ((0:Int)<=(i64.wrap ((i64.wrap (a+1)) - (i64.wrap (2*(Int.tmod a 2)))))) (cg ((i64.wrap ((i64.wrap (a+1)) - (i64.wrap (2*(Int.tmod a 2)))))<(b.length:Int)) (cg (eX (((c.length:Int)+1)*8)) (call (Z89.R b) fun v1=>J (.p1 (i64.wrap (Int.tdiv a 2)) (c++[[L.int (jG b (toNat (i64.wrap ((i64.wrap (a+1)) - (i64.wrap (2*(Int.tmod a 2)))))))]]) v1))))) (call (Z89.R b) fun v2=>J (.p1 (i64.wrap (Int.tdiv a 2)) c v2))) (ret (c:aD)))
 | .p1 a b c=>(cond ((c.length:Int)>1) (cond ((i64.wrap ((i64.wrap (a+1)) - (i64.wrap (2*(Int.tmod a 2)))))<(c.length:Int)) (cg ((0:Int)<=(i64.wrap ((i64.wrap (a+1)) - (i64.wrap (2*(Int.tmod a 2)))))) (cg ((i64.wrap ((i64.wrap (a+1)) - (i64.wrap (2*(Int.tmod a 2)))))<(c.length:Int)) (cg (eX (((b.length:Int)+1)*8)) (call (Z89.R c) fun v1=>J (.p1 (i64.wrap (Int.tdiv a 2)) (b++[[L.int (jG c (toNat (i64.wrap ((i64.wrap (a+1)) - (i64.wrap (2*(Int.tmod a 2)))))))]]) v1))))) (call (Z89.R c) fun v2=>J (.p1 (i64.wrap (Int.tdiv a 2)) b v2))) (ret (b:aD)))
def start (J:Pt->aI)(x0:aD)(x1:Int):aI:=(call (Z49.R (x1,0,(i64.wrap (x0.length - 1)))) fun v1=>(cond (!v1) (ret ([]:aD)) (J (.p0 x1 x0 []))))
def live:Nat->Live:=fL [(5,[(1,none),(5,some 3),(6,none)])]
def wT (i:Nat):Nat:=if i % 2=0 then i+1 else i - 1
def wU (i:Nat)(l c:List Int):List Int:=if wT i<l.length then c++[l.getD (wT i) 0] else c
def Aw:Nat->Nat->List Int->List Int->List Int
 | 0,_,_,c=>c
 | k+1,i,l,c=>if l.length>1 then Aw k (i / 2) (Z89.up l) (wU i l c) else c
def uT:∀(k i:Nat) (l c:List Int),(Aw k i l c).length<=c.length+k
 | 0,_,_,c=>Nat.le_refl _
 | k+1,i,l,c=>by
  unfold Aw
  by_cases h:l.length>1
  ·rw [if_pos h]
   have:=uT k (i / 2) (Z89.up l) (wU i l c)
   have h2:(wU i l c).length<=c.length+1:=by unfold wU;split<;>simp
   omega
  ·rw [if_neg h];omega
def half (i:Nat)(h:i<2^40):i64.wrap (Int.tdiv (i:Int) 2)=((i / 2:Nat):Int):=by
 rw [show Int.tdiv (i:Int) 2=((i / 2:Nat):Int) from rfl,wi _ (by omega)]
def BO (i:Nat)(h:i<2^40):i64.wrap (i64.wrap ((i:Int)+1) - i64.wrap (2*Int.tmod (i:Int) 2))=((wT i:Nat):Int):=by
 rw [show Int.tmod (i:Int) 2=((i % 2:Nat):Int) from rfl,wi ((i:Int)+1) (by omega),wi (2*((i % 2:Nat):Int)) (by omega),wi _ (by omega)]
 unfold wT
 split<;>omega
def md (a0:List Int)(a1:Int):List Int:=bif Z49.md a1 0 (i64.wrap (a0.length - 1)) then Aw a0.length a1.toNat a0 [] else []
def gd (a0:List Int)(a1:Int):Prop:=bO (2^38) (fun y:Int=>True) a0
def R:=RR (p2 gd) (u2 md)
def aj {a0 a1}(h:gd a0 a1):R ((a0.map bk),a1)=some ((md a0 a1).map bk):=cB h
def aU:=CN [pL 3,pI] (oL 3) RT.dec R
def bh (a0)(a1)(hg:gd a0 a1):∃n,start (iter step n) (a0.map bk) a1=ret ((md a0 a1).map bk):=by
 have one:∀(i:Nat) (l c r:List Int) (n:Nat),bO (2^38) (fun y:Int=>True) l->i<2^40->c.length<2^40->(if l.length>1 then iter step n (Pt.p1 ((i / 2:Nat):Int) ((wU i l c).map bk) ((Z89.up l).map bk))=ret (r.map bk) else c=r)->
   step (iter step n) (Pt.p0 (i:Int) (l.map bk) (c.map bk))=ret (r.map bk)/\step (iter step n) (Pt.p1 (i:Int) (c.map bk) (l.map bk))=ret (r.map bk):=by
  intro i l c r n hl hi hc h
  have hs:=BO i hi
  have hd:=half i hi
  refine ⟨?_,?_⟩
  all_goals
   simp only [step,MM,List.length_map,iw,hs,hd,dw]
   by_cases h1:l.length>1
   ·rw [if_pos h1] at h
    rw [decide_eq_true (show (l.length:Int)>1 by omega),aZ]
    by_cases h2:wT i<l.length
    ·rw [wU,if_pos h2,List.map_append] at h
     rw [decide_eq_true (show ((wT i:Nat):Int)<(l.length:Int) by omega),aZ,decide_eq_true (show (0:Int)<=((wT i:Nat):Int) by omega),aZ,aZ,iJ (by omega),aZ]
     exact aX _ (Z89.aj hl) h
    ·rw [wU,if_neg h2] at h
     rw [decide_eq_false (show ¬((wT i:Nat):Int)<(l.length:Int) by omega),bg]
     exact aX _ (Z89.aj hl) h
   ·rw [if_neg h1] at h
    rw [decide_eq_false (show ¬(l.length:Int)>1 by omega),bg,h]
 have key:∀(k i:Nat) (l c:List Int),bO (2^38) (fun y:Int=>True) l->l.length<=k->i<2^40->c.length+k<2^40->
   ∃n,step (iter step n) (Pt.p0 (i:Int) (l.map bk) (c.map bk))=ret ((Aw k i l c).map bk)/\step (iter step n) (Pt.p1 (i:Int) (c.map bk) (l.map bk))=ret ((Aw k i l c).map bk):=by
  intro k
  induction k with
  | zero=>intro i l c hl hk hi hc;exact ⟨0,one i l c _ 0 hl hi (by omega) (by rw [if_neg (by omega)];rfl)⟩
  | succ k ih=>
   intro i l c hl hk hi hc
   unfold Aw
   by_cases h1:l.length>1
   ·have hu:=Z89.kS l
    have hl1:=hl.1
    have h2:(wU i l c).length<=c.length+1:=by unfold wU;split<;>simp
    obtain ⟨n,_,hn⟩:=ih (i / 2) (Z89.up l) (wU i l c) ⟨by omega,fun _ _=>trivial⟩ (by omega) (by omega) (by omega)
    rw [if_pos h1]
    exact ⟨n+1,one i l c _ (n+1) hl hi (by omega) (by rw [if_pos h1];exact hn)⟩
   ·rw [if_neg h1]
    exact ⟨0,one i l c _ 0 hl hi (by omega) (by rw [if_neg h1])⟩
 unfold start md
 simp only [List.length_map]
 have hlen:=hg.1
 cases h:Z49.md a1 0 (i64.wrap ((a0.length:Int) - 1))
 ·exact ⟨0,aX false (by rw [<-h];exact Z49.aj trivial) rfl⟩
 ·have hh:=h
  rw [wi _ (by omega)] at hh
  simp [Z49.md] at hh
  obtain ⟨i,rfl⟩:=Int.eq_ofNat_of_zero_le hh.1
  obtain ⟨n,hn,_⟩:=key a0.length i a0 [] hg (Nat.le_refl _) (by omega) (by simp only [List.length_nil];omega)
  exact ⟨n+1,aX true (by rw [<-h];exact Z49.aj trivial) hn⟩
def af:cC 285 aU:=L2 42 (fun _=>5) cG cX live step start mix aB bh (eM Z49.af Z89.af) Tryz.func285
def len (a0:List Int)(a1:Int):(md a0 a1).length<=a0.length:=by
 unfold md
 cases Z49.md _ 0 _
 ·exact zero_le _
 ·exact le_trans (uT _ _ _ _) (by simp)
end Z98
namespace Z99
def F (x0:aD)(x1:aC):aI:=(call (Z97.R (x0,x1)) fun v1=>(cond (v1<0) (ret (((⟨0,[]⟩:cS),false):cS×Bool)) (call (Z87.R x0) fun v2=>(call (Z98.R (v2,v1)) fun v3=>ret (((⟨v1,v3⟩:cS),true):cS×Bool)))))
def md (a0:List ah)(a1:aC):aH×Bool:=(cond ((Z97.md a0 a1)<0) ((⟨0,[]⟩:aH),false) ((⟨(Z97.md a0 a1),(Z98.md (Z87.md a0) (Z97.md a0 a1))⟩:aH),true))
def gd (a0:List ah)(a1:aC):Prop:=(bO (2^21) (fun y:ah=>ah.Sm (2^21) y) a0)
def R:=RR (p2 gd) (u2 md)
def aj {a0 a1}(h:gd a0 a1):R ((a0.map ah.row),a1)=some ((aH.r (md a0 a1).1),(md a0 a1).2):=cB h
def aU:=CN [pL 38,pS] (.iL [(true,f122),(false,[fB])]) RT.dec R
def bh (a0)(a1)(hg:gd a0 a1):F (a0.map ah.row) a1=ret ((aH.r (md a0 a1).1),(md a0 a1).2):=by
 unfold gd at hg
 have H0:=hg
 unfold F md
 try simp only [SS]
 refine ct (Z97.aj H0) ?_
 have fv1_:=Z97.fa a0 a1
 refine bt (fun b:aH×Bool=>ret (((aH.r b.1),b.2):cS×Bool)) (fun c1=>?_) (fun c1=>?_)
 ·all_goals exact fz
 ·have dc1:=c1
  try simp only [DC] at dc1
  refine ct (Z87.aj H0) ?_
  try simp only [SS]
  refine ct (Z98.aj ⟨(have:=Z87.len a0;have:=(H0).1;om),fun _ _=>trivial⟩) ?_
  try simp only [SS]
  all_goals exact fz
def af:cC 232 aU:=W2 19 F mix aB bh (jS Z97.af Z87.af Z98.af) Tryz.func232
def iF {a0:List ah}{a1:aC}(hg:gd a0 a1):aH.Sm (2^21) ((md a0 a1).1):=by
 unfold gd at hg;unfold md
 cases decide (Z97.md a0 a1<0)
 ·refine ⟨?_,fun _ _=>trivial⟩
  have h:=Z98.len (Z87.md a0) (Z97.md a0 a1)
  rw [Z87.len] at h
  exact le_trans h hg.1
 ·exact bO.nil
def sz (a0:List ah)(a1:aC):aH.size (md a0 a1).1<=a0.length:=by
 unfold aH.size md
 rw [rS]
 cases decide (Z97.md a0 a1<0)
 ·have:=Z98.len (Z87.md a0) (Z97.md a0 a1)
  rw [Z87.len] at this
  exact this
 ·exact zero_le _
end Z99
namespace Z100
inductive Pt where
 | p0 (a:aD) (b:aC) (c d:Int)
def cG:Pt->List V
 | .p0 a b c d=>[.sl none 38 a,.str b,.int .i64 c,.int .i64 d]
def step (J:Pt->aI):Pt->aI
 | .p0 a b c d=>(cond (d<(a.length:Int)) (m2 d (a.length:Int) (call (Z81.R ((bH.at a (toNat d)).aV,b)) fun v1=>(cond (v1<0) (J (.p0 a b (i64.wrap (c+1)) (i64.wrap (d+1)))) (J (.p0 a b c (i64.wrap (d+1))))))) (ret (c:Int)))
def start (J:Pt->aI)(x0:aD)(x1:aC):aI:=J (.p0 x0 x1 0 0)
def live:Nat->Live:=fL [(3,gA [0,1,5,6])]
def md (a0:List ah)(a1:aC):Int:=(eo (S:=Int) (β:=Int) (fun (y1:ah) (s3:Int)=>(cond ((Z81.md (y1.aV) a1)<0) (.inl (i64.wrap (s3+1))) (.inl s3))) (fun (s3:Int)=>(s3:Int)) a0 0)
def gd (a0:List ah)(a1:aC):Prop:=(bO (2^21) (fun y:ah=>ah.Sm (2^21) y) a0)
def R:=RR (p2 gd) (u2 md)
def aj {a0 a1}(h:gd a0 a1):R ((a0.map ah.row),a1)=some (md a0 a1):=cB h
def aU:=CN [pL 38,pS] oI RT.dec R
def bh (a0)(a1)(hg:gd a0 a1):∃n,start (iter step n) (a0.map ah.row) a1=ret (md a0 a1):=by
 unfold gd at hg
 have H0:=hg
 unfold start md
 try simp only [SS]
 have Bh2:a0.length<=maxLen:=(by
   have:=(H0).1
   try simp only [maxLen] at *
   omega)
 refine ex_eq (out:=ret) (eS (z:=ah.zero)) ?_
 refine dW (p:=Pt.p0 (a0.map ah.row) a1 0 0) fz ?_
 refine cq (pt:=fun (i1:Nat) (s3:Int)=>Pt.p0 (a0.map ah.row) a1 s3 (i1:Int)) (s:=(0:Int)) (out:=ret) (fun _ _=>True) (fun J i1 s3 h2 hih2=>?_) (fun s3 hih2=>?_) trivial
 ·simp only [step,SS]
  have bb_:=Bh2
  simp only [maxLen] at bb_
  have:=(H0).1
  refine bq.yes (by apply decide_eq_true;omega) ?_
  refine bq.yes aK ?_
  refine bq.yes (aP h2) ?_
  refine cr (Z81.aj trivial) ?_
  refine bq.bif (fun c4=>?_) (fun c4=>?_)
  ·refine bq.inl trivial ?_
   rw [aJ h2 Bh2]
   all_goals exact fz
  ·refine bq.inl trivial ?_
   rw [aJ h2 Bh2]
   all_goals exact fz
 ·simp only [step,SS]
  have:=(H0).1
  refine dH (by apply decide_eq_false;omega) ?_
  refine ⟨0,?_⟩
  all_goals exact fz
def af:cC 288 aU:=L2 24 (fun _=>3) cG (fun _=>[]) live step start mix aB bh (cJ Z81.af) Tryz.func288
def fa (a0:List ah)(a1:aC):a0.length<=2^21->0<=md a0 a1/\md a0 a1<=(a0.length:Int):=fun hl=>by
 have key:∀(xs:List ah) (s:Int),0<=s->s+xs.length<=2^22->0<=eo (S:=Int) (β:=Int) (fun (y1:ah) (s3:Int)=>(cond ((Z81.md (y1.aV) a1)<0) (.inl (i64.wrap (s3+1))) (.inl s3))) (fun (s3:Int)=>(s3:Int)) xs s/\eo (S:=Int) (β:=Int) (fun (y1:ah) (s3:Int)=>(cond ((Z81.md (y1.aV) a1)<0) (.inl (i64.wrap (s3+1))) (.inl s3))) (fun (s3:Int)=>(s3:Int)) xs s<=s+xs.length:=by
  intro xs
  induction xs with
  | nil=>intro s h0 h1;exact ⟨h0,by simp [eo]⟩
  | cons x xs ih=>
   intro s h0 h1
   simp only [List.length_cons] at h1 ⊢
   unfold eo
   cases decide (Z81.md x.aV a1<0)
   ·have:=ih s h0 (by omega)
    simp only [bg]
    omega
   ·have:=ih (s+1) (by omega) (by omega)
    simp only [aZ]
    rw [wi _ (by omega)]
    omega
 have:=key a0 0 (Int.le_refl _) (by omega)
 unfold md
 omega
end Z100
namespace Z101
def F (x0:aD)(x1:aC):aI:=(call (Z82.R x0) fun v1=>(cond (!v1) (ret (((⟨0,(⟨(⟨#[]⟩:aC),0,0,[]⟩),(⟨(⟨#[]⟩:aC),0,0,[]⟩),(⟨0,[]⟩),(⟨0,[]⟩)⟩),false):eN×Bool)) (call (Z50.R x1) fun v2=>(cond (!v2) (ret (((⟨0,(⟨(⟨#[]⟩:aC),0,0,[]⟩),(⟨(⟨#[]⟩:aC),0,0,[]⟩),(⟨0,[]⟩),(⟨0,[]⟩)⟩),false):eN×Bool)) (call (Z97.R (x0,x1)) fun v3=>(cond (v3>=0) (ret (((⟨0,(⟨(⟨#[]⟩:aC),0,0,[]⟩),(⟨(⟨#[]⟩:aC),0,0,[]⟩),(⟨0,[]⟩),(⟨0,[]⟩)⟩),false):eN×Bool)) (call (Z100.R (x0,x1)) fun v4=>(cond (v4>0) (cg ((0:Int)<=(i64.wrap (v4 - 1))) (cg ((i64.wrap (v4 - 1))<x0.length) (call (Z44.R (bH.at x0 (toNat (i64.wrap (v4 - 1))))) fun v5=>(cg ((0:Int)<=(i64.wrap (v4 - 1))) (cg ((i64.wrap (v4 - 1))<x0.length) (call (Z99.R (x0,(bH.at x0 (toNat (i64.wrap (v4 - 1)))).aV)) fun v6=>(cond (v4<x0.length) (m2 v4 x0.length (call (Z44.R (bH.at x0 (toNat v4))) fun v7=>(m2 v4 x0.length (call (Z99.R (x0,(bH.at x0 (toNat v4)).aV)) fun v8=>ret (((⟨v4,v5,v7,v6.1,v8.1⟩),true):eN×Bool))))) (ret (((⟨v4,v5,(⟨(⟨#[]⟩:aC),0,0,[]⟩),v6.1,(⟨0,[]⟩)⟩),true):eN×Bool))))))))) (cond (v4<x0.length) (m2 v4 x0.length (call (Z44.R (bH.at x0 (toNat v4))) fun v9=>(m2 v4 x0.length (call (Z99.R (x0,(bH.at x0 (toNat v4)).aV)) fun v10=>ret (((⟨v4,(⟨(⟨#[]⟩:aC),0,0,[]⟩),v9,(⟨0,[]⟩),v10.1⟩),true):eN×Bool))))) (ret (((⟨v4,(⟨(⟨#[]⟩:aC),0,0,[]⟩),(⟨(⟨#[]⟩:aC),0,0,[]⟩),(⟨0,[]⟩),(⟨0,[]⟩)⟩),true):eN×Bool)))))))))))
def md (a0:List ah)(a1:aC):bK×Bool:=(cond (!(Z82.md a0)) ((⟨0,(⟨((⟨#[]⟩:aC)),0,0,[]⟩),(⟨((⟨#[]⟩:aC)),0,0,[]⟩),(⟨0,[]⟩),(⟨0,[]⟩)⟩),false) (cond (!(Z50.md a1)) ((⟨0,(⟨((⟨#[]⟩:aC)),0,0,[]⟩),(⟨((⟨#[]⟩:aC)),0,0,[]⟩),(⟨0,[]⟩),(⟨0,[]⟩)⟩),false) (cond ((Z97.md a0 a1)>=0) ((⟨0,(⟨((⟨#[]⟩:aC)),0,0,[]⟩),(⟨((⟨#[]⟩:aC)),0,0,[]⟩),(⟨0,[]⟩),(⟨0,[]⟩)⟩),false) (cond ((Z100.md a0 a1)>0) (cond ((Z100.md a0 a1)<a0.length) ((⟨(Z100.md a0 a1),(a0.getD (toNat (i64.wrap ((Z100.md a0 a1) - 1))) ah.zero),(a0.getD (toNat (Z100.md a0 a1)) ah.zero),(Z99.md a0 ((a0.getD (toNat (i64.wrap ((Z100.md a0 a1) - 1))) ah.zero).aV)).1,(Z99.md a0 ((a0.getD (toNat (Z100.md a0 a1)) ah.zero).aV)).1⟩),true) ((⟨(Z100.md a0 a1),(a0.getD (toNat (i64.wrap ((Z100.md a0 a1) - 1))) ah.zero),(⟨((⟨#[]⟩:aC)),0,0,[]⟩),(Z99.md a0 ((a0.getD (toNat (i64.wrap ((Z100.md a0 a1) - 1))) ah.zero).aV)).1,(⟨0,[]⟩)⟩),true)) (cond ((Z100.md a0 a1)<a0.length) ((⟨(Z100.md a0 a1),(⟨((⟨#[]⟩:aC)),0,0,[]⟩),(a0.getD (toNat (Z100.md a0 a1)) ah.zero),(⟨0,[]⟩),(Z99.md a0 ((a0.getD (toNat (Z100.md a0 a1)) ah.zero).aV)).1⟩),true) ((⟨(Z100.md a0 a1),(⟨((⟨#[]⟩:aC)),0,0,[]⟩),(⟨((⟨#[]⟩:aC)),0,0,[]⟩),(⟨0,[]⟩),(⟨0,[]⟩)⟩),true))))))
def gd (a0:List ah)(a1:aC):Prop:=(bO (2^21) (fun y:ah=>ah.Sm (2^21) y) a0)/\(a1.size<=(2^21))
def R:=RR (p2 gd) (u2 md)
def aj {a0 a1}(h:gd a0 a1):R ((a0.map ah.row),a1)=some ((bK.r (md a0 a1).1),(md a0 a1).2):=cB h
def aU:=CN [pL 38,pS] (.iL [(true,f124),(false,[fB])]) RT.dec R
def bh (a0)(a1)(hg:gd a0 a1):F (a0.map ah.row) a1=ret ((bK.r (md a0 a1).1),(md a0 a1).2):=by
 obtain ⟨H0,H1⟩:=hg
 unfold F md
 simp only [SS]
 refine ct (Z82.aj H0) (bt (fun b:bK×Bool=>ret (((bK.r b.1),b.2):eN×Bool)) (fun c1=>fz) (fun c1=>?_))
 refine ct (Z50.aj (le_trans H1 (by decide))) (bt (fun b:bK×Bool=>ret (((bK.r b.1),b.2):eN×Bool)) (fun c2=>fz) (fun c2=>?_))
 refine ct (Z97.aj H0) (bt (fun b:bK×Bool=>ret (((bK.r b.1),b.2):eN×Bool)) (fun c3=>fz) (fun c3=>?_))
 refine ct (Z100.aj H0) ?_
 have fv4_:=Z100.fa a0 a1
 refine bt (fun b:bK×Bool=>ret (((bK.r b.1),b.2):eN×Bool)) (fun c4=>?_) (fun c4=>?_)
 ·have dc4:=c4
  simp only [DC] at dc4
  refine ak (have:=(H0).1;dt) (ak (have:=(H0).1;have:=(H0).1;dt) ?_)
  refine ct (Z44.aj (bO.getD H0 (by have:=(H0).1;first | assumption | omega | (simp (disch:=omega) only [wi];omega) | (simp;omega)))) (ak (have:=(H0).1;dt) ?_)
  refine ak (have:=(H0).1;have:=(H0).1;dt) (ct (Z99.aj H0) ?_)
  refine bt (fun b:bK×Bool=>ret (((bK.r b.1),b.2):eN×Bool)) (fun c5=>?_) (fun c5=>fz)
  have dc5:=c5
  simp only [DC] at dc5
  refine ak dt (ak (have:=(H0).1;have:=(H0).1;dt) ?_)
  refine ct (Z44.aj (bO.getD H0 (by have:=(H0).1;first | assumption | omega | (simp (disch:=omega) only [wi];omega) | (simp;omega)))) (ak dt ?_)
  refine ak (have:=(H0).1;have:=(H0).1;dt) (ct (Z99.aj H0) ?_)
  exact fz
 ·refine bt (fun b:bK×Bool=>ret (((bK.r b.1),b.2):eN×Bool)) (fun c6=>?_) (fun c6=>fz)
  have dc6:=c6
  simp only [DC] at dc6
  refine ak (have:=(H0).1;dt) (ak (have:=(H0).1;have:=(H0).1;dt) ?_)
  refine ct (Z44.aj (bO.getD H0 (by have:=(H0).1;first | assumption | omega | (simp (disch:=omega) only [wi];omega) | (simp;omega)))) (ak (have:=(H0).1;dt) ?_)
  refine ak (have:=(H0).1;have:=(H0).1;dt) (ct (Z99.aj H0) ?_)
  exact fz
def af:cC 233 aU:=W2 71 F mix aB bh (zE Z82.af Z50.af Z97.af Z100.af Z44.af Z99.af) Tryz.func233
def iF {a0:List ah}{a1:aC}(hg:gd a0 a1):bK.Sm (2^21) ((md a0 a1).1):=by
 unfold gd at hg;unfold md
 have ez:ah.Sm (2^21) ⟨⟨#[]⟩,0,0,[]⟩:=⟨zero_le _,bO.nil⟩
 have pz:aH.Sm (2^21) ⟨0,[]⟩:=bO.nil
 have he:∀i,ah.Sm (2^21) (a0.getD i ah.zero):=fun i=>bO.sZ hg.1 ez
 have hp:∀x,aH.Sm (2^21) (Z99.md a0 x).1:=fun x=>Z99.iF hg.1
 simp only [Bool.cond_eq_ite]
 repeat' split
 all_goals (refine ⟨?_,?_,?_,?_⟩<;>first | exact he _ | exact hp _ | exact ez | exact pz)
def sz (a0:List ah)(a1:aC):bK.size (md a0 a1).1<=4*eC (fun y:ah=>ah.size y) a0:=by
 have hl:a0.length<=eC (fun y:ah=>ah.size y) a0:=Nat.le_add_right _ _
 have he:∀i,ah.size (a0.getD i ah.zero)<=eC (fun y:ah=>ah.size y) a0:=fun i=>kU (f:=fun y:ah=>ah.size y) rfl
 have hp:∀x,aH.size (Z99.md a0 x).1<=a0.length:=fun x=>Z99.sz a0 x
 have hd:∀(n:Int) (b a:ah) (l r:aH),bK.size ⟨n,b,a,l,r⟩=ah.size b+ah.size a+aH.size l+aH.size r:=fun _ _ _ _ _=>rfl
 have e0:ah.size ⟨⟨#[]⟩,0,0,[]⟩=0:=rfl
 have p0:aH.size ⟨0,[]⟩=0:=rfl
 have h1:=he (toNat (i64.wrap ((Z100.md a0 a1) - 1)))
 have h2:=he (toNat (Z100.md a0 a1))
 have h3:=hp ((a0.getD (toNat (i64.wrap ((Z100.md a0 a1) - 1))) ah.zero).aV)
 have h4:=hp ((a0.getD (toNat (Z100.md a0 a1)) ah.zero).aV)
 unfold md
 simp only [Bool.cond_eq_ite]
 repeat' split
 all_goals simp only [hd,e0,p0]
 all_goals omega
end Z101
namespace Z102
def F (x0:fq)(x1:aC):aI:=(call (Z94.R x0) fun v1=>(cond (!v1) (ret ((⟨[],false,(⟨(⟨#[]⟩:aC),0,0,[]⟩),(⟨0,[]⟩),(⟨0,(⟨(⟨#[]⟩:aC),0,0,[]⟩),(⟨(⟨#[]⟩:aC),0,0,[]⟩),(⟨0,[]⟩),(⟨0,[]⟩)⟩)⟩):bf)) (call (Z50.R x1) fun v2=>(cond (!v2) (ret ((⟨[],false,(⟨(⟨#[]⟩:aC),0,0,[]⟩),(⟨0,[]⟩),(⟨0,(⟨(⟨#[]⟩:aC),0,0,[]⟩),(⟨(⟨#[]⟩:aC),0,0,[]⟩),(⟨0,[]⟩),(⟨0,[]⟩)⟩)⟩):bf)) (call (Z40.R x0.aT) fun v3=>(call (Z97.R (x0.ck,x1)) fun v4=>(cond (v4>=0) (m2 v4 x0.ck.length (call (Z44.R (bH.at x0.ck (toNat v4))) fun v5=>(call (Z99.R (x0.ck,x1)) fun v6=>ret ((⟨v3,true,v5,v6.1,(⟨0,(⟨(⟨#[]⟩:aC),0,0,[]⟩),(⟨(⟨#[]⟩:aC),0,0,[]⟩),(⟨0,[]⟩),(⟨0,[]⟩)⟩)⟩):bf)))) (call (Z101.R (x0.ck,x1)) fun v7=>ret ((⟨v3,false,(⟨(⟨#[]⟩:aC),0,0,[]⟩),(⟨0,[]⟩),v7.1⟩):bf)))))))))
def md (a0:bD)(a1:aC):aq:=(cond (!(Z94.md a0)) (⟨[],false,(⟨((⟨#[]⟩:aC)),0,0,[]⟩),(⟨0,[]⟩),(⟨0,(⟨((⟨#[]⟩:aC)),0,0,[]⟩),(⟨((⟨#[]⟩:aC)),0,0,[]⟩),(⟨0,[]⟩),(⟨0,[]⟩)⟩)⟩) (cond (!(Z50.md a1)) (⟨[],false,(⟨((⟨#[]⟩:aC)),0,0,[]⟩),(⟨0,[]⟩),(⟨0,(⟨((⟨#[]⟩:aC)),0,0,[]⟩),(⟨((⟨#[]⟩:aC)),0,0,[]⟩),(⟨0,[]⟩),(⟨0,[]⟩)⟩)⟩) (cond ((Z97.md a0.ck a1)>=0) (⟨a0.aT,true,(a0.ck.getD (toNat (Z97.md a0.ck a1)) ah.zero),(Z99.md a0.ck a1).1,(⟨0,(⟨((⟨#[]⟩:aC)),0,0,[]⟩),(⟨((⟨#[]⟩:aC)),0,0,[]⟩),(⟨0,[]⟩),(⟨0,[]⟩)⟩)⟩) (⟨a0.aT,false,(⟨((⟨#[]⟩:aC)),0,0,[]⟩),(⟨0,[]⟩),(Z101.md a0.ck a1).1⟩))))
def gd (a0:bD)(a1:aC):Prop:=(bD.Sm (2^21) a0)/\(a1.size<=(2^21))
def R:=RR (p2 gd) (u2 md)
def aj {a0 a1}(h:gd a0 a1):R ((bD.r a0),a1)=some (aq.r (md a0 a1)):=cB h
def aU:=CN [.agg xq,pS] (.agg f126) RT.dec R
def bh (a0)(a1)(hg:gd a0 a1):F (bD.r a0) a1=ret (aq.r (md a0 a1)):=by
 obtain ⟨H0,H1⟩:=hg
 refine ct (Z94.aj H0) (bo (fun c1=>fz) (fun c1=>?_))
 refine ct (Z50.aj (le_trans H1 (by decide))) (bo (fun c2=>fz) (fun c2=>?_))
 refine ct (Z40.aj H0.1) ?_
 simp only [SS]
 refine ct (Z97.aj H0.2) ?_
 have fv4_:=Z97.fa a0.ck a1
 refine bo (fun c3=>?_) (fun c3=>ct (Z101.aj ⟨H0.2,H1⟩) fz)
 have dc3:=c3
 simp only [DC] at dc3
 refine ak dt (ak (have:=(H0.2).1;dt) ?_)
 refine ct (Z44.aj (bO.getD H0.2 (by omega))) (ct (Z99.aj H0.2) ?_)
 exact fz
def af:cC 177 aU:=W2 52 F mix aB bh (zj Z94.af Z50.af Z40.af Z97.af Z44.af Z99.af Z101.af) Tryz.func177
def iF {a0:bD}{a1:aC}(hg:gd a0 a1):aq.Sm (2^21) (md a0 a1):=by
 unfold gd at hg;unfold md
 obtain ⟨⟨hc,hl⟩,_⟩:=hg
 have ez:ah.Sm (2^21) ⟨⟨#[]⟩,0,0,[]⟩:=⟨zero_le _,bO.nil⟩
 have pz:aH.Sm (2^21) ⟨0,[]⟩:=bO.nil
 have gz:bK.Sm (2^21) ⟨0,⟨⟨#[]⟩,0,0,[]⟩,⟨⟨#[]⟩,0,0,[]⟩,⟨0,[]⟩,⟨0,[]⟩⟩:=⟨ez,ez,pz,pz⟩
 have he:∀i,ah.Sm (2^21) (a0.ck.getD i ah.zero):=fun i=>bO.sZ hl ez
 have hp:∀x,aH.Sm (2^21) (Z99.md a0.ck x).1:=fun x=>Z99.iF hl
 have hga:bK.Sm (2^21) (Z101.md a0.ck a1).1:=Z101.iF ⟨hl,by assumption⟩
 simp only [Bool.cond_eq_ite]
 repeat' split
 all_goals (refine ⟨?_,?_,?_,?_⟩<;>first | exact hc | exact bO.nil | exact he _ | exact hp _ | exact hga | exact ez | exact pz | exact gz)
def sz (a0:bD)(a1:aC):aq.size (md a0 a1)<=6*bD.size a0:=by
 have hz:bD.size a0=eC (fun y:aa=>aa.size y) a0.aT+eC (fun y:ah=>ah.size y) a0.ck:=rfl
 have hl:a0.ck.length<=eC (fun y:ah=>ah.size y) a0.ck:=Nat.le_add_right _ _
 have he:∀i,ah.size (a0.ck.getD i ah.zero)<=eC (fun y:ah=>ah.size y) a0.ck:=fun i=>kU (f:=fun y:ah=>ah.size y) rfl
 have hp:=Z99.sz a0.ck a1
 have hg:=Z101.sz a0.ck a1
 have hd:∀(c:List aa) (f:Bool) (e:ah) (p:aH) (g:bK),aq.size ⟨c,f,e,p,g⟩=eC (fun y:aa=>aa.size y) c+ah.size e+aH.size p+bK.size g:=fun _ _ _ _ _=>rfl
 have e0:ah.size ⟨⟨#[]⟩,0,0,[]⟩=0:=rfl
 have p0:aH.size ⟨0,[]⟩=0:=rfl
 have g0:bK.size ⟨0,⟨⟨#[]⟩,0,0,[]⟩,⟨⟨#[]⟩,0,0,[]⟩,⟨0,[]⟩,⟨0,[]⟩⟩=0:=rfl
 have c0:eC (fun y:aa=>aa.size y) []=0:=rfl
 have h1:=he (toNat (Z97.md a0.ck a1))
 unfold md
 simp only [Bool.cond_eq_ite]
 repeat' split
 all_goals simp only [hd,e0,p0,g0,c0]
 all_goals omega
end Z102
namespace Z103
def F (x0:ec)(x1:Int)(x2:aC):aI:=(call (Z96.R (x0,x1)) fun v1=>(cond (v1<0) (ret ((⟨[],false,(⟨(⟨#[]⟩:aC),0,0,[]⟩),(⟨0,[]⟩),(⟨0,(⟨(⟨#[]⟩:aC),0,0,[]⟩),(⟨(⟨#[]⟩:aC),0,0,[]⟩),(⟨0,[]⟩),(⟨0,[]⟩)⟩)⟩):bf)) (cond (x0.jz==4) (ret ((⟨[],false,(⟨(⟨#[]⟩:aC),0,0,[]⟩),(⟨0,[]⟩),(⟨0,(⟨(⟨#[]⟩:aC),0,0,[]⟩),(⟨(⟨#[]⟩:aC),0,0,[]⟩),(⟨0,[]⟩),(⟨0,[]⟩)⟩)⟩):bf)) (m2 v1 x0.bQ.length (call (Z102.R ((fq.at x0.bQ (toNat v1)),x2)) fun v2=>(cond (x0.jz==1) (ret ((⟨v2.aT,v2.bY,(⟨v2.aQ.aV,v2.aQ.bI,(i64.wrap (v2.aQ.bX+1)),v2.aQ.bz⟩),v2.cZ,v2.dS⟩):bf)) (cond (x0.jz==2) (cond ((v2.aT.length:Int)>0) (cg ((0:Int)<=(i64.wrap (v2.aT.length - 1))) (cg ((i64.wrap (v2.aT.length - 1))<=v2.aT.length) (ret ((⟨(List.take (toNat (i64.wrap (v2.aT.length - 1))) v2.aT),v2.bY,v2.aQ,v2.cZ,v2.dS⟩):bf)))) (ret v2)) (cond (x0.jz==3) (ret ((⟨v2.aT,false,(⟨(⟨#[]⟩:aC),0,0,[]⟩),(⟨0,[]⟩),(⟨0,(⟨(⟨#[]⟩:aC),0,0,[]⟩),(⟨(⟨#[]⟩:aC),0,0,[]⟩),(⟨0,[]⟩),(⟨0,[]⟩)⟩)⟩):bf)) (ret v2)))))))))
def pats:List gN:=[.agg [.sl 215,au],.rd (.int .i64),.rd (.str)]
def res:RP:=.agg [.fr 178,.rd (.bool),.rd (.str),.rd (.int .i64),.rd (.int .i64),.fr 9,.rd (.int .i64),.fr 3,.rd (.int .i64),.rd (.str),.rd (.int .i64),.rd (.int .i64),.fr 9,.rd (.str),.rd (.int .i64),.rd (.int .i64),.fr 9,.rd (.int .i64),.fr 3,.rd (.int .i64),.fr 3]
def md (a0:aR)(a1:Int)(a2:aC):aq:=(cond ((Z96.md a0 a1)<0) (⟨[],false,(⟨((⟨#[]⟩:aC)),0,0,[]⟩),(⟨0,[]⟩),(⟨0,(⟨((⟨#[]⟩:aC)),0,0,[]⟩),(⟨((⟨#[]⟩:aC)),0,0,[]⟩),(⟨0,[]⟩),(⟨0,[]⟩)⟩)⟩) (cond (a0.jz==4) (⟨[],false,(⟨((⟨#[]⟩:aC)),0,0,[]⟩),(⟨0,[]⟩),(⟨0,(⟨((⟨#[]⟩:aC)),0,0,[]⟩),(⟨((⟨#[]⟩:aC)),0,0,[]⟩),(⟨0,[]⟩),(⟨0,[]⟩)⟩)⟩) (cond (a0.jz==1) (⟨(Z102.md (a0.bQ.getD (toNat (Z96.md a0 a1)) bD.zero) a2).aT,(Z102.md (a0.bQ.getD (toNat (Z96.md a0 a1)) bD.zero) a2).bY,(⟨(Z102.md (a0.bQ.getD (toNat (Z96.md a0 a1)) bD.zero) a2).aQ.aV,(Z102.md (a0.bQ.getD (toNat (Z96.md a0 a1)) bD.zero) a2).aQ.bI,(i64.wrap ((Z102.md (a0.bQ.getD (toNat (Z96.md a0 a1)) bD.zero) a2).aQ.bX+1)),(Z102.md (a0.bQ.getD (toNat (Z96.md a0 a1)) bD.zero) a2).aQ.bz⟩),(Z102.md (a0.bQ.getD (toNat (Z96.md a0 a1)) bD.zero) a2).cZ,(Z102.md (a0.bQ.getD (toNat (Z96.md a0 a1)) bD.zero) a2).dS⟩) (cond (a0.jz==2) (cond (((Z102.md (a0.bQ.getD (toNat (Z96.md a0 a1)) bD.zero) a2).aT.length:Int)>0) (⟨(List.take (toNat (i64.wrap (((Z102.md (a0.bQ.getD (toNat (Z96.md a0 a1)) bD.zero) a2).aT.length) - 1))) (Z102.md (a0.bQ.getD (toNat (Z96.md a0 a1)) bD.zero) a2).aT),(Z102.md (a0.bQ.getD (toNat (Z96.md a0 a1)) bD.zero) a2).bY,(Z102.md (a0.bQ.getD (toNat (Z96.md a0 a1)) bD.zero) a2).aQ,(Z102.md (a0.bQ.getD (toNat (Z96.md a0 a1)) bD.zero) a2).cZ,(Z102.md (a0.bQ.getD (toNat (Z96.md a0 a1)) bD.zero) a2).dS⟩) (Z102.md (a0.bQ.getD (toNat (Z96.md a0 a1)) bD.zero) a2)) (cond (a0.jz==3) (⟨(Z102.md (a0.bQ.getD (toNat (Z96.md a0 a1)) bD.zero) a2).aT,false,(⟨((⟨#[]⟩:aC)),0,0,[]⟩),(⟨0,[]⟩),(⟨0,(⟨((⟨#[]⟩:aC)),0,0,[]⟩),(⟨((⟨#[]⟩:aC)),0,0,[]⟩),(⟨0,[]⟩),(⟨0,[]⟩)⟩)⟩) (Z102.md (a0.bQ.getD (toNat (Z96.md a0 a1)) bD.zero) a2))))))
def gd (a0:aR)(a1:Int)(a2:aC):Prop:=(aR.Sm (2^21) a0)/\(a2.size<=(2^21))
def acc (ls:List L):ec×Int×aC:=((ec.dec ls),((ay 2 ls).headD .hole).toInt,((ay 3 ls).headD .hole).toStr)
def R:(ec×Int×aC)->Option bf:=RR (p3 gd) (u3 md)
def aj {a0 a1 a2}(h:gd a0 a1 a2):R ((aR.r a0),a1,a2)=some (aq.r (md a0 a1 a2)):=kN h
def aU:fY:=CN pats res acc R
def bh (a0:aR)(a1:Int)(a2:aC)(hg:gd a0 a1 a2):F (aR.r a0) a1 a2=ret ((aq.r (md a0 a1 a2)):bf):=by
 obtain ⟨H0,H2⟩:=hg
 unfold F md
 simp only [SS]
 refine ct (Z96.aj H0) ?_
 have fv1_:=Z96.fa a0 a1
 refine bo (fun c1=>fz) (fun c1=>?_)
 have dc1:=c1
 simp only [DC] at dc1
 refine bo (fun c2=>fz) (fun c2=>?_)
 refine ak dt (ak (have:=(H0).1;have:=(H0).1;dt) ?_)
 refine ct (Z102.aj ⟨(bO.getD H0 (by have:=(H0).1;first | assumption | omega | (simp (disch:=omega) only [wi];omega) | (simp;omega))),H2⟩) ?_
 simp only [SS]
 refine bo (fun c3=>fz) (fun c3=>?_)
 refine bo (fun c4=>?_) (fun c4=>?_)
 ·refine bo (fun c5=>?_) (fun c5=>fz)
  have dc5:=c5
  simp only [DC] at dc5
  refine ak (have:=((Z102.iF (a0:=a0.bQ.getD (toNat (Z96.md a0 a1)) bD.zero) ⟨(bO.getD H0 (by have:=(H0).1;first | assumption | omega | (simp (disch:=omega) only [wi];omega) | (simp;omega))),H2⟩).1).1;have:=(H0).1;dt) (ak (have:=((Z102.iF (a0:=a0.bQ.getD (toNat (Z96.md a0 a1)) bD.zero) ⟨(bO.getD H0 (by have:=(H0).1;first | assumption | omega | (simp (disch:=omega) only [wi];omega) | (simp;omega))),H2⟩).1).1;have:=(H0).1;dt) ?_)
  exact fz
 ·exact bo (fun c6=>fz) (fun c6=>fz)
def af:cC 136 aU:=VT (live:=fun _=>[]) (nt:=57) (run:=fun _ x=>F x.1 x.2.1 x.2.2) mix aB (eM Z96.af Z102.af) .nil Tryz.func136 (by kernel_rfl) (fun _ _=>by kernel_rfl) (fun _ a _ _ hg=>⟨0,bh a.1 a.2.1 a.2.2 hg⟩)
def iF {a0:aR}{a1:Int}{a2:aC}(hg:gd a0 a1 a2):aq.Sm (2^21) (md a0 a1 a2):=by
 unfold gd at hg;unfold md
 obtain ⟨hs,hl⟩:=hg
 have ez:ah.Sm (2^21) ⟨⟨#[]⟩,0,0,[]⟩:=⟨zero_le _,bO.nil⟩
 have pz:aH.Sm (2^21) ⟨0,[]⟩:=bO.nil
 have gz:bK.Sm (2^21) ⟨0,⟨⟨#[]⟩,0,0,[]⟩,⟨⟨#[]⟩,0,0,[]⟩,⟨0,[]⟩,⟨0,[]⟩⟩:=⟨ez,ez,pz,pz⟩
 have zz:bD.Sm (2^21) bD.zero:=⟨bO.nil,bO.nil⟩
 have ha:∀i,aq.Sm (2^21) (Z102.md (a0.bQ.getD i bD.zero) a2):=fun i=>Z102.iF ⟨bO.sZ hs zz,hl⟩
 have ht2:∀i n,bO (2^21) (fun y:aa=>aa.Sm (2^21) y) (List.take n (Z102.md (a0.bQ.getD i bD.zero) a2).aT):=fun i n=>⟨le_trans (by simp;omega) (ha i).1.1,fun x hx=>(ha i).1.2 x (List.mem_of_mem_take hx)⟩
 simp only [Bool.cond_eq_ite]
 repeat' split
 all_goals first | exact ha _ | (refine ⟨?_,?_,?_,?_⟩<;>first | exact ht _ _ | exact ht2 _ _ | exact bO.nil | exact (ha _).1 | exact (ha _).2.1 | exact (ha _).2.2.1 | exact (ha _).2.2.2 | exact ez | exact pz | exact gz)
def xk {α:Type}(f:α->Nat):∀(n:Nat) (xs:List α),eC f (xs.take n)<=eC f xs
 | 0,xs=>by simp [eC]
 | n+1,[]=>by simp [eC]
 | n+1,x::xs=>by
  have:=xk f n xs
  unfold eC at this ⊢
  simp only [List.take_succ_cons,List.length_cons,List.map_cons,List.sum_cons]
  omega
def sz (a0:aR)(a1:Int)(a2:aC):aq.size (md a0 a1 a2)<=6*aR.size a0:=by
 have hz:bD.size (a0.bQ.getD (toNat (Z96.md a0 a1)) bD.zero)<=aR.size a0:=kU (f:=fun y:bD=>bD.size y) (xs:=a0.bQ) rfl
 have hA:=Z102.sz (a0.bQ.getD (toNat (Z96.md a0 a1)) bD.zero) a2
 have hd:∀(c:List aa) (f:Bool) (e:ah) (p:aH) (g:bK),aq.size ⟨c,f,e,p,g⟩=eC (fun y:aa=>aa.size y) c+ah.size e+aH.size p+bK.size g:=fun _ _ _ _ _=>rfl
 have he:∀(l:aC) (k v:Int) (p:List aC),ah.size ⟨l,k,v,p⟩=l.size+eC (fun y:aC=>y.size) p:=fun _ _ _ _=>rfl
 unfold md
 revert hA
 generalize Z102.md (a0.bQ.getD (toNat (Z96.md a0 a1)) bD.zero) a2=A
 intro hA
 have hA2:aq.size A=eC (fun y:aa=>aa.size y) A.aT+ah.size A.aQ+aH.size A.cZ+bK.size A.dS:=rfl
 have hE2:ah.size A.aQ=A.aQ.aV.size+eC (fun y:aC=>y.size) A.aQ.bz:=rfl
 have ht:=fun n=>xk (fun y:aa=>aa.size y) n A.aT
 have e0:ah.size ⟨⟨#[]⟩,0,0,[]⟩=0:=rfl
 have p0:aH.size ⟨0,[]⟩=0:=rfl
 have g0:bK.size ⟨0,⟨⟨#[]⟩,0,0,[]⟩,⟨⟨#[]⟩,0,0,[]⟩,⟨0,[]⟩,⟨0,[]⟩⟩=0:=rfl
 have c0:eC (fun y:aa=>aa.size y) []=0:=rfl
 have ht1:=ht (toNat (i64.wrap ((A.aT.length:Int) - 1)))
 simp only [Bool.cond_eq_ite]
 repeat' split
 all_goals first
  | omega
  | (simp only [hd,e0,p0,g0,c0];omega)
  | (simp only [hd,he];omega)
end Z103
namespace Z104
inductive Pt where
 | p0 (a:aD) (b:Int) (c:aC) (d:Int) (e:aD)
def cG:Pt->List V
 | .p0 a b c d e=>[.sl none 138 a,.int .i64 b,.str c,.own 0,.int .i64 d]
def cX:Pt->List aW
 | .p0 a b c d e=>[.row 126 e]
def step (J:Pt->aI):Pt->aI
 | .p0 a b c d e=>(cond (d<(a.length:Int)) (cond (d<4) (m2 d (a.length:Int) (call (Z103.R ((ec.at a (toNat d)),b,c)) fun v1=>(cg (eX (((e.length:Int)+1)*304)) (J (.p0 a b c (i64.wrap (d+1)) (e++[(bf.enc v1)])))))) (ret (e:aD))) (ret (e:aD)))
def start (J:Pt->aI)(x0:aD)(x1:Int)(x2:aC):aI:=J (.p0 x0 x1 x2 0 [])
def live:Nat->Live:=fL [(3,[(0,none),(1,none),(2,none),(7,some 126),(8,none)])]
def md (a0:List aR)(a1:Int)(a2:aC):List aq:=(dV (S:=List aq) (β:=List aq) (fun i1 y1 (s3:List aq)=>(cond ((i1:Int)<4) (.inl (s3++[(Z103.md y1 a1 a2)])) (.inr s3))) (fun (s3:List aq)=>s3) 0 a0 [])
def gd (a0:List aR)(a1:Int)(a2:aC):Prop:=(bO (2^21) (fun y:aR=>aR.Sm (2^21) y) a0)/\(a2.size<=(2^21))
def R:=RR (p3 gd) (u3 md)
def aj {a0 a1 a2}(h:gd a0 a1 a2):R ((a0.map aR.row),a1,a2)=some ((md a0 a1 a2).map aq.row):=kN h
def aU:=CN [pL 138,pI,pS] (oL 126) RT.dec R
def bh (a0)(a1)(a2)(hg:gd a0 a1 a2):∃n,start (iter step n) (a0.map aR.row) a1 a2=ret ((md a0 a1 a2).map aq.row):=by
 obtain ⟨H0,H2⟩:=hg
 have Bh2:=bl H0
 refine ex_eq (out:=(fun b:List aq=>ret ((b.map aq.row):aD))) (cW (z:=aR.zero)) (dW fz ?_)
 refine cq (pt:=fun (i1:Nat) (s3:List aq)=>Pt.p0 (a0.map aR.row) a1 a2 (i1:Int) (s3.map aq.row)) (s:=([]:List aq)) (out:=(fun b:List aq=>ret ((b.map aq.row):aD))) (fun (i1:Nat) (s3:List aq)=>s3.length<=([]:List Int).length+1*i1) (fun J i1 s3 h2 hih2=>?_) (fun s3 hih2=>?_) (by simp)
 ·simp only [step,SS]
  have gr_:=hih2
  simp only [LN] at gr_
  refine bq.yes dt (bq.bif (fun c4=>?_) (fun c4=>bq.inr fz))
  have dc4:=c4
  simp only [DC] at dc4
  refine bq.yes aK (bq.yes (aP h2) ?_)
  refine cr (Z103.aj ⟨(bO.getD H0 h2),H2⟩) (bq.yes lm ?_)
  refine bq.inl (by
    (simp;omega)) ?_
  rw [aJ h2 Bh2]
  exact fz
 ·simp only [step,SS]
  refine dH dn (⟨0,?_⟩)
  exact fz
def af:cC 88 aU:=L3 31 (fun _=>3) cG cX live step start mix aB bh (cJ Z103.af) Tryz.func88
def rm (a0:List aR)(a1:Int)(a2:aC):md a0 a1 a2=(a0.take 4).map (fun y=>Z103.md y a1 a2):=by
 have key:∀(xs:List aR) (i:Nat) (s:List aq),i<=4->dV (fun (i1:Nat) (y1:aR) (s3:List aq)=>(cond ((i1:Int)<4) (.inl (s3++[(Z103.md y1 a1 a2)])) (.inr s3))) (fun (s3:List aq)=>s3) i xs s=s++(xs.take (4 - i)).map (fun y=>Z103.md y a1 a2):=by
  intro xs
  induction xs with
  | nil=>intro i s _;simp [dV]
  | cons x xs ih=>
   intro i s hi
   unfold dV
   by_cases h:i<4
   ·rw [decide_eq_true (by omega)]
    simp only [aZ]
    rw [ih (i+1) _ (by omega),show 4 - i=(4 - (i+1))+1 by omega]
    simp
   ·rw [decide_eq_false (by omega),show 4 - i=0 by omega]
    simp
 exact (key a0 0 [] (by omega)).trans (by simp)
def iF {a0:List aR}{a1:Int}{a2:aC}(hg:gd a0 a1 a2):bO (2^21) (fun y:aq=>aq.Sm (2^21) y) (md a0 a1 a2):=by
 rw [rm]
 exact (bO.take hg.1).map fun x hx=>Z103.iF ⟨hx,hg.2⟩
def A4 (a0:List aR)(a1:Int)(a2:aC):(md a0 a1 a2).length<=4:=by
 rw [rm,List.length_map]
 exact le_trans (List.length_take_le _ _) (Nat.le_refl _)
def sz (a0:List aR)(a1:Int)(a2:aC):eC (fun y:aq=>aq.size y) (md a0 a1 a2)<=6*eC (fun y:aR=>aR.size y) a0:=by
 rw [rm]
 have key:∀xs:List aR,eC (fun y:aq=>aq.size y) (xs.map (fun y=>Z103.md y a1 a2))<=6*eC (fun y:aR=>aR.size y) xs:=by
  intro xs
  induction xs with
  | nil=>exact zero_le _
  | cons x xs ih=>
   have h:=Z103.sz x a1 a2
   unfold eC at ih ⊢
   simp only [List.map_cons,List.length_cons,List.sum_cons,List.length_map] at ih ⊢
   omega
 exact le_trans (key _) (Nat.mul_le_mul_left _ (Z103.xk _ _ _))
end Z104
namespace Z105
inductive Pt where
 | p0 (a b:Int) (c:bu)
def cG:Pt->List V
 | .p0 a b c=>[.int .i64 a,.cD 0 0,.int .i64 b]
def cX:Pt->List aW
 | .p0 a b c=>[.box [.sl none 120 c.aL,.sl none 180 c.bp]]
def step (J:Pt->aI):Pt->aI
 | .p0 a b c=>(cond (b<(c.aL.length:Int)) (m2 b (c.aL.length:Int) (cond (((qd c.aL (toNat b)).length:Int)>0) (m2 b (c.aL.length:Int) (cg ((0:Int)<((qd c.aL (toNat b)).length:Int)) (cond ((aY.at (qd c.aL (toNat b)) 0).an.bw==a) (ret (b:Int)) (J (.p0 a (i64.wrap (b+1)) c))))) (J (.p0 a (i64.wrap (b+1)) c)))) (ret ((-1):Int)))
def start (J:Pt->aI)(x0:bu)(x1:Int):aI:=J (.p0 x1 0 x0)
def live:Nat->Live:=fL [(2,gA [1,2,5])]
def md (a0:av)(a1:Int):Int:=(dV (S:=Unit) (β:=Int) (fun (i1:Nat) (y1:List aa) (s3:Unit)=>(cond ((y1.length:Int)>0) (cond (((y1.getD 0 aa.zero).an).bw==a1) (.inr ((i1:Int):Int)) (.inl ())) (.inl ()))) (fun (s3:Unit)=>((-1):Int)) 0 a0.aL ())
def gd (a0:av)(a1:Int):Prop:=(av.Sm (2^21) a0)
def R:=RR (p2 gd) (u2 md)
def aj {a0 a1}(h:gd a0 a1):R ((av.r a0),a1)=some (md a0 a1):=cB h
def aU:=CN [.agg uY,pI] oI RT.dec R
def bh (a0)(a1)(hg:gd a0 a1):∃n,start (iter step n) (av.r a0) a1=ret (md a0 a1):=by
 unfold gd at hg
 have H0:=hg
 unfold start md
 try simp only [SS]
 have Bh2:a0.aL.length<=maxLen:=(by
   have:=(H0.1).1
   try simp only [maxLen] at *
   omega)
 refine ex_eq (out:=ret) (cW (z:=[])) ?_
 refine dW (p:=Pt.p0 a1 0 (av.r a0)) fz ?_
 refine cq (pt:=fun (i1:Nat) (s3:Unit)=>Pt.p0 a1 (i1:Int) (av.r a0)) (s:=(():Unit)) (out:=ret) (fun _ _=>True) (fun J i1 s3 h2 hih2=>?_) (fun s3 hih2=>?_) trivial
 ·simp only [step,SS]
  have bb_:=Bh2
  simp only [maxLen] at bb_
  have:=(H0.1).1
  refine bq.yes (by apply decide_eq_true;omega) ?_
  refine bq.yes aK ?_
  refine bq.yes (aP h2) ?_
  refine bq.bif (fun c4=>?_) (fun c4=>?_)
  ·have dc4:=c4
   try simp only [DC] at dc4
   refine bq.yes aK ?_
   refine bq.yes (aP h2) ?_
   refine bq.yes (have:=((bO.getD (z:=[]) H0.1 h2)).1;dt) ?_
   refine bq.bif (fun c5=>?_) (fun c5=>?_)
   ·refine bq.inr ?_
    all_goals exact fz
   ·refine bq.inl trivial ?_
    rw [aJ h2 Bh2]
    all_goals exact fz
  ·refine bq.inl trivial ?_
   rw [aJ h2 Bh2]
   all_goals exact fz
 ·simp only [step,SS]
  have:=(H0.1).1
  refine dH (by apply decide_eq_false;omega) ?_
  refine ⟨0,?_⟩
  all_goals exact fz
def af:cC 181 aU:=L2 34 (fun _=>2) cG cX live step start mix aB bh .nil Tryz.func181
def fa (a0:av)(a1:Int):-1<=md a0 a1/\md a0 a1<(a0.aL.length:Int):=by
 unfold md
 refine gG ?_ _ _
 all_goals
  intro i x s b h
  revert h
  simp only [Bool.cond_eq_ite]
  repeat' split
  all_goals (intro h;first | (cases h;rfl) | cases h)
end Z105
namespace Z106
def F (x0 x1:dm):aI:=(call (Z61.R x0) fun v1=>(call (Z61.R x1) fun v2=>(call (Z70.R (v1,v2)) fun v3=>(cond v3 (ret ((x0.bC==x1.bC))) (ret false)))))
def md (a0 a1:aE):Bool:=(cond (Z70.md (Z61.md a0) (Z61.md a1)) ((a0.bC==a1.bC)) false)
def gd (a0 a1:aE):Prop:=(aE.Sm (2^21) a0)/\(aE.Sm (2^21) a1)
def R:=RR (p2 gd) (u2 md)
def aj {a0 a1}(h:gd a0 a1):R ((aE.r a0),(aE.r a1))=some (md a0 a1):=cB h
def aU:=CN [.agg gB,.agg gB] oB RT.dec R
def bh (a0)(a1)(hg:gd a0 a1):F (aE.r a0) (aE.r a1)=ret (md a0 a1):=by
 obtain ⟨H0,H1⟩:=hg
 refine ct (Z61.aj H0) (ct (Z61.aj H1) ?_)
 refine ct (Z70.aj ⟨⟨(have:=Z61.len a0;have:=(H0.1).1;have:=(H0.2.1).1;have:=(H0.2.2).1;om),fun _ _=>trivial⟩,⟨(have:=Z61.len a1;have:=(H1.1).1;have:=(H1.2.1).1;have:=(H1.2.2).1;om),fun _ _=>trivial⟩⟩) (bs (fun c1=>?_) (fun _=>rfl))
 exact fz
def af:cC 237 aU:=W2 17 F mix aB bh (eM Z61.af Z70.af) Tryz.func237
def md_eq (a0 a1:aE):md a0 a1=eD a0 a1:=by
 unfold md
 simp only [Z70.md_eq,bool_beq]
 rw [Bool.eq_iff_iff]
 constructor
 ·intro h
  cases he:eD (Z61.md a0) (Z61.md a1)<;>rw [he] at h
  ·cases h
  ·exact dz.2 (Z61.inj (dz.1 he))
 ·intro h
  rw [dz] at h
  rw [h,gv,gv];rfl
end Z106
namespace Z107
inductive Pt where
 | p0 (a b:aD) (c:Int)
def cG:Pt->List V
 | .p0 a b c=>[.sl none 178 a,.sl none 178 b,.int .i64 c]
def step (J:Pt->aI):Pt->aI
 | .p0 a b c=>(cond (c<(a.length:Int)) (m2 c (a.length:Int) (m2 c (b.length:Int) (call (Z106.R ((aY.at a (toNat c)).an,(aY.at b (toNat c)).an)) fun v1=>(cond (!v1) bT (J (.p0 a b (i64.wrap (c+1)))))))) gf)
def start (J:Pt->aI)(x0 x1:aD):aI:=(cond ((x0.length:Int)>(x1.length:Int)) bT (J (.p0 x0 x1 0)))
def live:Nat->Live:=fL [(4,gA [0,1,5])]
def md (a0 a1:List aa):Bool:=(bif (decide ((a0.length:Int)>(a1.length:Int))) then (false:Bool) else (eL (S:=Unit) (β:=Bool) (fun (i2:Nat) (s4:Unit)=>(cond (!(Z106.md ((a0.getD i2 aa.zero).an) ((a1.getD i2 aa.zero).an))) (.inr (false:Bool)) (.inl ()))) (fun (s4:Unit)=>(true:Bool)) a0.length 0 ()))
def gd (a0 a1:List aa):Prop:=(bO (2^21) (fun y:aa=>aa.Sm (2^21) y) a0)/\(bO (2^21) (fun y:aa=>aa.Sm (2^21) y) a1)
def R:=RR (p2 gd) (u2 md)
def aj {a0 a1}(h:gd a0 a1):R ((a0.map aa.row),(a1.map aa.row))=some (md a0 a1):=cB h
def aU:=CN [pL 178,pL 178] oB RT.dec R
def bh (a0)(a1)(hg:gd a0 a1):∃n,start (iter step n) (a0.map aa.row) (a1.map aa.row)=ret (md a0 a1):=by
 obtain ⟨H0,H1⟩:=hg
 unfold start md
 try simp only [SS]
 refine iy ret (fun _=>⟨0,rfl⟩) (fun c1=>?_)
 have dc1:=c1
 try simp only [DC] at dc1
 have Bh3:a0.length<=maxLen:=(by
   have:=(H0).1
   try simp only [maxLen] at *
   omega)
 refine dW (p:=Pt.p0 (a0.map aa.row) (a1.map aa.row) 0) fz ?_
 refine cq (pt:=fun (i2:Nat) (s4:Unit)=>Pt.p0 (a0.map aa.row) (a1.map aa.row) (i2:Int)) (s:=(():Unit)) (out:=ret) (fun _ _=>True) (fun J i2 s4 h3 hih3=>?_) (fun s4 hih3=>?_) trivial
 ·simp only [step,SS]
  have bb_:=Bh3
  simp only [maxLen] at bb_
  have:=(H0).1
  refine bq.yes (by apply decide_eq_true;omega) ?_
  refine bq.yes aK ?_
  refine bq.yes (aP h3) ?_
  refine bq.yes aK ?_
  refine bq.yes (have:=(H1).1;dt) ?_
  refine cr (Z106.aj ⟨(bO.getD (z:=aa.zero) H0 h3).1,(bO.getD (z:=aa.zero) H1 (by first | assumption | omega | (simp (disch:=omega) only [wi];omega) | (simp;omega))).1⟩) ?_
  refine bq.bif (fun _=>bq.inr rfl) (fun c5=>?_)
  refine bq.inl trivial ?_
  rw [aJ h3 Bh3]
  all_goals exact fz
 ·simp only [step,SS]
  have:=(H0).1
  refine dH (by apply decide_eq_false;omega) ?_
  refine ⟨0,?_⟩
  all_goals exact fz
def af:cC 236 aU:=L2 29 (fun _=>4) cG (fun _=>[]) live step start mix aB bh (cJ Z106.af) Tryz.func236
end Z107
namespace Z108
def F (x0:bu)(x1:aD):aI:=(call (Z78.R x1) fun v1=>(cond (!v1) (ret (6:Int)) (cg ((0:Int)<(x1.length:Int)) (call (Z105.R (x0,(aY.at x1 0).an.bw)) fun v2=>(cond (v2<0) (ret (1:Int)) (m2 v2 (x0.aL.length:Int) (call (Z107.R ((qd x0.aL (toNat v2)),x1)) fun v3=>(m2 v2 (x0.aL.length:Int) (call (Z107.R (x1,(qd x0.aL (toNat v2)))) fun v4=>(cond v3 (cond v4 (ret (2:Int)) (cond v3 (ret (3:Int)) (cond v4 (ret (4:Int)) (ret (5:Int))))) (cond v3 (ret (3:Int)) (cond v4 (ret (4:Int)) (ret (5:Int))))))))))))))
def md (a0:av)(a1:List aa):Int:=(cond (!(Z78.md a1)) (6:Int) (cond ((Z105.md a0 (((a1.getD 0 aa.zero).an).bw))<0) (1:Int) (cond (Z107.md (a0.aL.getD (toNat (Z105.md a0 (((a1.getD 0 aa.zero).an).bw))) []) a1) (cond (Z107.md a1 (a0.aL.getD (toNat (Z105.md a0 (((a1.getD 0 aa.zero).an).bw))) [])) (2:Int) (cond (Z107.md (a0.aL.getD (toNat (Z105.md a0 (((a1.getD 0 aa.zero).an).bw))) []) a1) (3:Int) (cond (Z107.md a1 (a0.aL.getD (toNat (Z105.md a0 (((a1.getD 0 aa.zero).an).bw))) [])) (4:Int) (5:Int)))) (cond (Z107.md (a0.aL.getD (toNat (Z105.md a0 (((a1.getD 0 aa.zero).an).bw))) []) a1) (3:Int) (cond (Z107.md a1 (a0.aL.getD (toNat (Z105.md a0 (((a1.getD 0 aa.zero).an).bw))) [])) (4:Int) (5:Int))))))
def gd (a0:av)(a1:List aa):Prop:=(av.Sm (2^21) a0)/\(bO (2^21) (fun y:aa=>aa.Sm (2^21) y) a1)
def R:=RR (p2 gd) (u2 md)
def aj {a0 a1}(h:gd a0 a1):R ((av.r a0),(a1.map aa.row))=some (md a0 a1):=cB h
def aU:=CN [.agg uY,pL 178] oI RT.dec R
def bh (a0)(a1)(hg:gd a0 a1):F (av.r a0) (a1.map aa.row)=ret (md a0 a1):=by
 obtain ⟨H0,H1⟩:=hg
 unfold F md
 try simp only [SS]
 refine ct (Z78.aj H1) ?_
 refine bt ret (fun _=>rfl) (fun c1=>?_)
 have dc1:=c1
 try simp only [DC] at dc1
 try have tc1:=Z78.tr (by simpa using c1)
 refine ak (have:=(H1).1;dt) ?_
 refine ct (Z105.aj H0) ?_
 have fv2_:=Z105.fa a0 (((a1.getD 0 aa.zero).an).bw)
 refine bt ret (fun _=>rfl) (fun c2=>?_)
 have dc2:=c2
 try simp only [DC] at dc2
 refine ak dt ?_
 refine ak (have:=(H0.1).1;dt) ?_
 refine ct (Z107.aj ⟨(bO.getD (z:=[]) H0.1 (by first | assumption | omega | (simp (disch:=omega) only [wi];omega) | (simp;omega))),H1⟩) ?_
 refine ak dt ?_
 refine ak (have:=(H0.1).1;dt) ?_
 refine ct (Z107.aj ⟨H1,(bO.getD (z:=[]) H0.1 (by first | assumption | omega | (simp (disch:=omega) only [wi];omega) | (simp;omega)))⟩) ?_
 refine bt ret (fun c3=>?_) (fun c3=>?_)
 ·refine bt ret (fun _=>rfl) (fun c4=>?_)
  refine bt ret (fun _=>rfl) (fun c5=>?_)
  refine bt ret (fun _=>rfl) (fun _=>rfl)
 ·refine bt ret (fun _=>rfl) (fun c7=>?_)
  refine bt ret (fun _=>rfl) (fun _=>rfl)
def af:cC 180 aU:=W2 43 F mix aB bh (jS Z78.af Z105.af Z107.af) Tryz.func180
def fa (a0:av)(a1:List aa):(md a0 a1=3->1<=a1.length/\0<=Z105.md a0 (a1.getD 0 aa.zero).an.bw)/\(md a0 a1=5->1<=a1.length/\0<=Z105.md a0 (a1.getD 0 aa.zero).an.bw):=by
 unfold md
 cases h:Z78.md a1
 ·exact ⟨fun h=>by simp at h,fun h=>by simp at h⟩
 ·have t:=Z78.tr h
  cases hf:decide (Z105.md a0 ((a1.getD 0 aa.zero).an.bw)<0)
  ·have:=of_decide_eq_false hf
   exact ⟨fun _=>⟨t.1,by omega⟩,fun _=>⟨t.1,by omega⟩⟩
  ·exact ⟨fun h=>by simp at h,fun h=>by simp at h⟩
end Z108
namespace Z109
inductive Pt where
 | p0 (a b:aD) (c d e f g h i j k l m n o:Int) (p:Bool) (q s t u v w y z w24 w25 w26 w27:Int) (w28:Bool) (w29 w30 w31 w32 w33 w34 w35 w36 w37 w38 w39 w40:Int) (w41:Bool)
def cG:Pt->List V
 | .p0 a b c d e f g h i j k l m n o p q s t u v w y z w24 w25 w26 w27 w28 w29 w30 w31 w32 w33 w34 w35 w36 w37 w38 w39 w40 w41=>[.sl none 178 a,.sl none 178 b,.cD 0 0,.int .i64 c]
def cX:Pt->List aW
 | .p0 a b c d e f g h i j k l m n o p q s t u v w y z w24 w25 w26 w27 w28 w29 w30 w31 w32 w33 w34 w35 w36 w37 w38 w39 w40 w41=>[.box [.int .i64 d,.int .i64 e,.int .i64 f,.int .i64 g,.int .i64 h,.int .i64 i,.int .i64 j,.int .i64 k,.nil,.int .i64 l,.nil,.int .i64 m,.int .i64 n,.nil,.int .i64 o,.bool p,.nil,.int .i64 q,.int .i64 s,.int .i64 t,.int .i64 u,.int .i64 v,.int .i64 w,.int .i64 y,.int .i64 z,.nil,.int .i64 w24,.nil,.int .i64 w25,.int .i64 w26,.nil,.int .i64 w27,.bool w28,.nil,.int .i64 w29,.int .i64 w30,.int .i64 w31,.int .i64 w32,.int .i64 w33,.int .i64 w34,.int .i64 w35,.int .i64 w36,.nil,.int .i64 w37,.nil,.int .i64 w38,.int .i64 w39,.nil,.int .i64 w40,.bool w41,.nil]]
def step (J:Pt->aI):Pt->aI
 | .p0 a b c d e f g h i j k l m n o p q s t u v w y z w24 w25 w26 w27 w28 w29 w30 w31 w32 w33 w34 w35 w36 w37 w38 w39 w40 w41=>(cond (c<(a.length:Int)) (cond (c<(b.length:Int)) (m2 c (a.length:Int) (m2 c (b.length:Int) (call (Z106.R ((aY.at a (toNat c)).an,(aY.at b (toNat c)).an)) fun v1=>(cond v1 (J (.p0 a b (i64.wrap (c+1)) d e f g h i j k l m n o p q s t u v w y z w24 w25 w26 w27 w28 w29 w30 w31 w32 w33 w34 w35 w36 w37 w38 w39 w40 w41)) (m2 c (a.length:Int) (call (Z39.R (aY.at a (toNat c))) fun v2=>(m2 c (b.length:Int) (call (Z39.R (aY.at b (toNat c))) fun v3=>(cond (c>0) (cg ((0:Int)<=(i64.wrap (c - 1))) (cg ((i64.wrap (c - 1))<(a.length:Int)) (call (Z39.R (aY.at a (toNat (i64.wrap (c - 1))))) fun v4=>ret (((⟨v4,v2,v3⟩:bM),true):bM×Bool)))) (ret (((⟨(⟨(⟨0,0,0,0,0,0,0,0,(⟨[],0⟩:cN),(⟨[],0⟩:cN),0,(⟨[],0⟩:cN),false⟩:dm),[]⟩:aY),v2,v3⟩:bM),true):bM×Bool))))))))))) (m2 c (a.length:Int) (call (Z39.R (aY.at a (toNat c))) fun v5=>(m2 c (b.length:Int) (call (Z39.R (aY.at b (toNat c))) fun v6=>(cond (c>0) (cg ((0:Int)<=(i64.wrap (c - 1))) (cg ((i64.wrap (c - 1))<(a.length:Int)) (call (Z39.R (aY.at a (toNat (i64.wrap (c - 1))))) fun v7=>ret (((⟨v7,v5,v6⟩:bM),true):bM×Bool)))) (ret (((⟨(⟨(⟨0,0,0,0,0,0,0,0,(⟨[],0⟩:cN),(⟨[],0⟩:cN),0,(⟨[],0⟩:cN),false⟩:dm),[]⟩:aY),v5,v6⟩:bM),true):bM×Bool)))))))) (m2 c (a.length:Int) (call (Z39.R (aY.at a (toNat c))) fun v8=>(m2 c (b.length:Int) (call (Z39.R (aY.at b (toNat c))) fun v9=>(cond (c>0) (cg ((0:Int)<=(i64.wrap (c - 1))) (cg ((i64.wrap (c - 1))<(a.length:Int)) (call (Z39.R (aY.at a (toNat (i64.wrap (c - 1))))) fun v10=>ret (((⟨v10,v8,v9⟩:bM),true):bM×Bool)))) (ret (((⟨(⟨(⟨0,0,0,0,0,0,0,0,(⟨[],0⟩:cN),(⟨[],0⟩:cN),0,(⟨[],0⟩:cN),false⟩:dm),[]⟩:aY),v8,v9⟩:bM),true):bM×Bool))))))))
def start (J:Pt->aI)(x0 x1:aD):aI:=(call (Z78.R x0) fun v1=>(cond (!v1) (ret (((⟨(⟨(⟨0,0,0,0,0,0,0,0,(⟨[],0⟩),(⟨[],0⟩),0,(⟨[],0⟩),false⟩),[]⟩),(⟨(⟨0,0,0,0,0,0,0,0,(⟨[],0⟩),(⟨[],0⟩),0,(⟨[],0⟩),false⟩),[]⟩),(⟨(⟨0,0,0,0,0,0,0,0,(⟨[],0⟩),(⟨[],0⟩),0,(⟨[],0⟩),false⟩),[]⟩)⟩),false):bM×Bool)) (call (Z78.R x1) fun v2=>(cond (!v2) (ret (((⟨(⟨(⟨0,0,0,0,0,0,0,0,(⟨[],0⟩),(⟨[],0⟩),0,(⟨[],0⟩),false⟩),[]⟩),(⟨(⟨0,0,0,0,0,0,0,0,(⟨[],0⟩),(⟨[],0⟩),0,(⟨[],0⟩),false⟩),[]⟩),(⟨(⟨0,0,0,0,0,0,0,0,(⟨[],0⟩),(⟨[],0⟩),0,(⟨[],0⟩),false⟩),[]⟩)⟩),false):bM×Bool)) (cg ((0:Int)<x0.length) (cg ((0:Int)<x1.length) (cond ((aY.at x0 0).an.bw != (aY.at x1 0).an.bw) (ret (((⟨(⟨(⟨0,0,0,0,0,0,0,0,(⟨[],0⟩),(⟨[],0⟩),0,(⟨[],0⟩),false⟩),[]⟩),(⟨(⟨0,0,0,0,0,0,0,0,(⟨[],0⟩),(⟨[],0⟩),0,(⟨[],0⟩),false⟩),[]⟩),(⟨(⟨0,0,0,0,0,0,0,0,(⟨[],0⟩),(⟨[],0⟩),0,(⟨[],0⟩),false⟩),[]⟩)⟩),false):bM×Bool)) (call (Z107.R (x0,x1)) fun v3=>(cond v3 (ret (((⟨(⟨(⟨0,0,0,0,0,0,0,0,(⟨[],0⟩),(⟨[],0⟩),0,(⟨[],0⟩),false⟩),[]⟩),(⟨(⟨0,0,0,0,0,0,0,0,(⟨[],0⟩),(⟨[],0⟩),0,(⟨[],0⟩),false⟩),[]⟩),(⟨(⟨0,0,0,0,0,0,0,0,(⟨[],0⟩),(⟨[],0⟩),0,(⟨[],0⟩),false⟩),[]⟩)⟩),false):bM×Bool)) (call (Z107.R (x1,x0)) fun v4=>(cond v4 (ret (((⟨(⟨(⟨0,0,0,0,0,0,0,0,(⟨[],0⟩),(⟨[],0⟩),0,(⟨[],0⟩),false⟩),[]⟩),(⟨(⟨0,0,0,0,0,0,0,0,(⟨[],0⟩),(⟨[],0⟩),0,(⟨[],0⟩),false⟩),[]⟩),(⟨(⟨0,0,0,0,0,0,0,0,(⟨[],0⟩),(⟨[],0⟩),0,(⟨[],0⟩),false⟩),[]⟩)⟩),false):bM×Bool)) (J (.p0 x0 x1 0 0 0 0 0 0 0 0 0 0 0 0 0 false 0 0 0 0 0 0 0 0 0 0 0 0 false 0 0 0 0 0 0 0 0 0 0 0 0 false)))))))))))))
def live:Nat->Live:=fL [(4,gA [0,1,4,6])]
def pt (a b:aD)(c:Int):Pt:=Pt.p0 a b c 0 0 0 0 0 0 0 0 0 0 0 0 false 0 0 0 0 0 0 0 0 0 0 0 0 false 0 0 0 0 0 0 0 0 0 0 0 0 false
def fk:List aa->List aa->Nat
 | x::xs,y::ys=>bif Z106.md x.an y.an then fk xs ys+1 else 0
 | _,_=>0
def qT:∀a b:List aa,(∀i,i<fk a b->Z106.md (a.getD i aa.zero).an (b.getD i aa.zero).an=true)/\
    ((fk a b<a.length/\fk a b<b.length/\Z106.md (a.getD (fk a b) aa.zero).an (b.getD (fk a b) aa.zero).an=false)∨
     (a.length<=b.length/\∀i,i<a.length->Z106.md (a.getD i aa.zero).an (b.getD i aa.zero).an=true)∨
     (b.length<=a.length/\∀i,i<b.length->Z106.md (a.getD i aa.zero).an (b.getD i aa.zero).an=true))
  | [],b=>⟨fun i hi=>by simp [fk] at hi,.inr (.inl ⟨zero_le _,fun i hi=>by simp at hi⟩)⟩
  | x::xs,[]=>⟨fun i hi=>by simp [fk] at hi,.inr (.inr ⟨zero_le _,fun i hi=>by simp at hi⟩)⟩
  | x::xs,y::ys=>by
    obtain ⟨h1,h2⟩:=qT xs ys
    cases h:Z106.md x.an y.an
    · have e:fk (x::xs) (y::ys)=0:=by simp [fk,h]
      rw [e]
      exact ⟨fun i hi=>by omega,.inl ⟨by simp,by simp,h⟩⟩
    · have e:fk (x::xs) (y::ys)=fk xs ys+1:=by simp [fk,h]
      rw [e]
      have up:∀{m:Nat},(∀i,i<m->Z106.md (xs.getD i aa.zero).an (ys.getD i aa.zero).an=true)->∀i,i<m+1->Z106.md ((x::xs).getD i aa.zero).an ((y::ys).getD i aa.zero).an=true:=by
        intro m hm i hi
        cases i with
        | zero=>exact h
        | succ i=>exact hm i (by omega)
      refine ⟨up h1,?_⟩
      rcases h2 with ⟨a,b,c⟩ | ⟨a,b⟩ | ⟨a,b⟩
      · exact .inl ⟨by simpa using a,by simpa using b,c⟩
      · exact .inr (.inl ⟨by simpa using a,up b⟩)
      · exact .inr (.inr ⟨by simpa using a,up b⟩)
def Ar {a b:List aa}(hl:a.length<=b.length)(h:∀i,i<a.length->Z106.md (a.getD i aa.zero).an (b.getD i aa.zero).an=true):Z107.md a b=true:=by
 unfold Z107.md
 rw [decide_eq_false (by omega),bg]
 refine (jP (fun i=>Z106.md (a.getD i aa.zero).an (b.getD i aa.zero).an=true) (fun i _ hi=>?_) (fun i _ hi=>?_)).2 ⟨h,rfl⟩
 ·simp only [hi,Bool.not_true,bg]
 ·rw [Bool.not_eq_true] at hi
  simp only [hi,Bool.not_false,aZ]
def eq_comm {a b:aE}(h:Z106.md a b=true):Z106.md b a=true:=by
 rw [Z106.md_eq,dz] at h ⊢
 exact h.symm
def mM {a b:List aa}(h1:Z107.md a b=false)(h2:Z107.md b a=false):fk a b<a.length/\fk a b<b.length/\Z106.md (a.getD (fk a b) aa.zero).an (b.getD (fk a b) aa.zero).an=false:=by
 rcases (qT a b).2 with h | ⟨h3,h4⟩ | ⟨h3,h4⟩
 ·exact h
 ·rw [Ar h3 h4] at h1;cases h1
 ·rw [Ar h3 fun i hi=>eq_comm (h4 i hi)] at h2;cases h2
def wC (a b:List aa):Nat->aF
 | 0=>⟨aa.zero,a.getD 0 aa.zero,b.getD 0 aa.zero⟩
 | k+1=>⟨a.getD k aa.zero,a.getD (k+1) aa.zero,b.getD (k+1) aa.zero⟩
def xW {a b:List aa}(h0:bO (2^21) (fun y:aa=>aa.Sm (2^21) y) a)(h1:bO (2^21) (fun y:aa=>aa.Sm (2^21) y) b){k:Nat}(hk:k<a.length)(hk2:k<b.length):aF.Sm (2^21) (wC a b k):=by
 cases k with
 | zero=>exact ⟨⟨⟨bO.nil,bO.nil,bO.nil⟩,bO.nil⟩,bO.getD h0 hk,bO.getD h1 hk2⟩
 | succ k=>exact ⟨bO.getD h0 (by omega),bO.getD h0 hk,bO.getD h1 hk2⟩
def AO {a b:List aa}{k:Nat}(hk:k<a.length)(hk2:k<b.length):aF.size (wC a b k)<=2*eC (fun y:aa=>aa.size y) a+eC (fun y:aa=>aa.size y) b:=by
 have h1:=oH (f:=fun y:aa=>aa.size y) (xs:=b) (i:=k) (z:=aa.zero) hk2
 have h2:=oH (f:=fun y:aa=>aa.size y) (xs:=a) (i:=k) (z:=aa.zero) hk
 have h0:aa.size aa.zero=0:=rfl
 cases k with
 | zero=>simp only [wC,aF.size];omega
 | succ k=>
  have h3:=oH (f:=fun y:aa=>aa.size y) (xs:=a) (i:=k) (z:=aa.zero) (by omega)
  simp only [wC,aF.size];omega
def md (a0 a1:List aa):aF×Bool:=(cond (!(Z78.md a0)) (aF.zero,false) (cond (!(Z78.md a1)) (aF.zero,false) (cond (((a0.getD 0 aa.zero).an).bw != ((a1.getD 0 aa.zero).an).bw) (aF.zero,false) (cond (Z107.md a0 a1) (aF.zero,false) (cond (Z107.md a1 a0) (aF.zero,false) (wC a0 a1 (fk a0 a1),true))))))
def gd (a0 a1:List aa):Prop:=bO (2^21) (fun y:aa=>aa.Sm (2^21) y) a0/\bO (2^21) (fun y:aa=>aa.Sm (2^21) y) a1
def R:=RR (p2 gd) (u2 md)
def aj {a0 a1}(h:gd a0 a1):R ((a0.map aa.row),(a1.map aa.row))=some ((aF.r (md a0 a1).1),(md a0 a1).2):=cB h
def aU:=CN [pL 178,pL 178] (.iL [(true,f180),(false,[fB])]) RT.dec R
def bh (a0)(a1)(hg:gd a0 a1):∃n,start (iter step n) (a0.map aa.row) (a1.map aa.row)=ret ((aF.r (md a0 a1).1),(md a0 a1).2):=by
 obtain ⟨H0,H1⟩:=hg
 have hl1:=H1.1
 have key:fk a0 a1<a0.length->fk a0 a1<a1.length->Z106.md (a0.getD (fk a0 a1) aa.zero).an (a1.getD (fk a0 a1) aa.zero).an=false->∀d k,k+d=fk a0 a1->∃n,iter step n (pt (a0.map aa.row) (a1.map aa.row) (k:Int))=ret ((aF.r (wC a0 a1 (fk a0 a1)),true):bM×Bool):=by
  intro hn0 hn1 hne d
  have hR:∀k,k<a0.length->k<a1.length->Z106.R (aE.r (a0.getD k aa.zero).an,aE.r (a1.getD k aa.zero).an)=some (Z106.md (a0.getD k aa.zero).an (a1.getD k aa.zero).an):=by
   intro k h0 h1
   rw [Z106.aj ⟨(bO.getD H0 h0).1,(bO.getD H1 h1).1⟩]
  induction d with
  | zero=>
   intro k hk
   obtain rfl:k=fk a0 a1:=by omega
   generalize hkk:fk a0 a1=k at hn0 hn1 hne ⊢
   refine ⟨1,?_⟩
   show step (iter step 0) _=_
   have q1:(0:Int)<=(k:Int):=by omega
   have q2:(k:Int)<(a0.length:Int):=by omega
   have q3:(k:Int)<(a1.length:Int):=by omega
   simp only [pt,step,MM,S0,aa.rs,aE.rs,q1,q2,q3,decide_true,aZ]
   rw [call_eq (hR k hn0 hn1),hne,bg,call_eq (Z39.aj (bO.getD H0 hn0)),call_eq (Z39.aj (bO.getD H1 hn1))]
   cases k with
   | zero=>rfl
   | succ k=>
    have q4:((k+1:Nat):Int)>0:=by omega
    have q5:i64.wrap (((k+1:Nat):Int) - 1)=(k:Int):=by rw [wi _ (by omega)];omega
    have q6:(0:Int)<=(k:Int):=by omega
    have q7:(k:Int)<(a0.length:Int):=by omega
    simp only [q4,q5,q6,q7,decide_true,aZ,S0,aa.rs]
    rw [call_eq (Z39.aj (bO.getD H0 (by omega)))]
    rfl
  | succ d ih=>
   intro k hk
   obtain ⟨n,hn⟩:=ih (k+1) (by omega)
   refine ⟨n+1,?_⟩
   show step (iter step n) _=_
   have q1:(0:Int)<=(k:Int):=by omega
   have q2:(k:Int)<(a0.length:Int):=by omega
   have q3:(k:Int)<(a1.length:Int):=by omega
   simp only [pt,step,MM,S0,aa.rs,aE.rs,q1,q2,q3,decide_true,aZ]
   rw [call_eq (hR k (by omega) (by omega)),(qT a0 a1).1 k (by omega),aZ,wi _ (by omega)]
   exact hn
 unfold start md
 simp only [S0,aa.rs,aE.rs]
 refine fC _ (Z78.aj H0) ?_
 cases hc0:Z78.md a0
 ·exact ⟨0,rfl⟩
 simp only [Bool.not_true,bg]
 refine fC _ (Z78.aj H1) ?_
 cases hc1:Z78.md a1
 ·exact ⟨0,rfl⟩
 have t0:=Z78.tr hc0
 have t1:=Z78.tr hc1
 simp only [Bool.not_true,bg]
 refine dQ (decide_eq_true (by omega)) (dQ (decide_eq_true (by omega)) ?_)
 cases ((a0.getD 0 aa.zero).an.bw != (a1.getD 0 aa.zero).an.bw)
 case true=>exact ⟨0,rfl⟩
 simp only [bg]
 refine fC _ (Z107.aj ⟨H0,H1⟩) ?_
 cases hp0:Z107.md a0 a1
 case true=>exact ⟨0,rfl⟩
 simp only [bg]
 refine fC _ (Z107.aj ⟨H1,H0⟩) ?_
 cases hp1:Z107.md a1 a0
 case true=>exact ⟨0,rfl⟩
 simp only [bg]
 obtain ⟨h1,h2,h3⟩:=mM hp0 hp1
 exact key h1 h2 h3 (fk a0 a1) 0 (by omega)
def af:cC 182 aU:=L2 86 (fun _=>4) cG cX live step start mix aB bh (kP Z78.af Z107.af Z106.af Z39.af) Tryz.func182
def iF {a0 a1:List aa}(hg:gd a0 a1):aF.Sm (2^21) ((md a0 a1).1):=by
 unfold gd at hg;unfold md
 have z:aF.Sm (2^21) aF.zero:=⟨⟨⟨bO.nil,bO.nil,bO.nil⟩,bO.nil⟩,⟨⟨bO.nil,bO.nil,bO.nil⟩,bO.nil⟩,⟨⟨bO.nil,bO.nil,bO.nil⟩,bO.nil⟩⟩
 cases Z78.md a0
 ·exact z
 cases Z78.md a1
 ·exact z
 cases ((a0.getD 0 aa.zero).an.bw != (a1.getD 0 aa.zero).an.bw)
 case true=>exact z
 cases h1:Z107.md a0 a1
 case true=>exact z
 cases h2:Z107.md a1 a0
 case true=>exact z
 obtain ⟨h3,h4,_⟩:=Z109.mM h1 h2
 exact Z109.xW hg.1 hg.2 h3 h4
end Z109
end Go.DM
end
