/- What the functions compute that the law reaches, and that the law returns true. Conditions: none. -/
import Derived.Test.YtgagkddebgbdmaaGreatResolveFromTy
import Derived.Test.YtgagkddebgbdmaaGreatProg
import Derived.Lib.AppendZerosOnto
import Derived.Lib.Bytealg
import Derived.Laws.Externs
import Derived.Lib.Walk
import Derived.Lib.Hide
import Derived.Lib.Strings
set_option linter.all false
set_option maxRecDepth 100000
noncomputable section
namespace Go.DM
open Go.Proofs
open Go.IntKind (i64)
open Int (toNat)
open Nat (le_trans zero_le)
abbrev au:=K.int .i64
abbrev bV:=ret ((-1):Int)
abbrev cm {A B A' B' Z Z':Type}[Im A A'][Im B B'][Im Z Z'](g:A->B->Prop)(m:A->B->Z):=RR (p2 g) (u2 m)
abbrev lp {A B C A' B' C' Z Z':Type}[Im A A'][Im B B'][Im C C'][Im Z Z'](g:A->B->C->Prop)(m:A->B->C->Z):=RR (p3 g) (u3 m)
abbrev vZ {A B C D A' B' C' D' Z Z':Type}[Im A A'][Im B B'][Im C C'][Im D D'][Im Z Z'](g:A->B->C->D->Prop)(m:A->B->C->D->Z):=RR (p4 g) (u4 m)
abbrev zV {A B C D E A' B' C' D' E' Z Z':Type}[Im A A'][Im B B'][Im C C'][Im D D'][Im E E'][Im Z Z'](g:A->B->C->D->E->Prop)(m:A->B->C->D->E->Z):=RR (p5 g) (u5 m)
abbrev zq {A B C D E F A' B' C' D' E' F' Z Z':Type}[Im A A'][Im B B'][Im C C'][Im D D'][Im E E'][Im F F'][Im Z Z'](g:A->B->C->D->E->F->Prop)(m:A->B->C->D->E->F->Z):=RR (p6 g) (u6 m)
abbrev dx:=ret (false:Bool)
abbrev gA:=ret (true:Bool)
abbrev fc (b:Int):Bool:=Nat.beq (toNat b) (toNat b)&&true
def gj (l:List Nat):Live:=l.map fun i=>(i,none)
def fK:List (Nat×Live)->Nat->Live
 | [],_=>[]
 | (k,v)::r,i=>cond (Nat.beq k i) v (fK r i)
section
variable {P:Program} {E:Env} {f1:Nat} {c1:gh} {f2:Nat} {c2:gh} {f3:Nat} {c3:gh} {f4:Nat} {c4:gh} {f5:Nat} {c5:gh} {f6:Nat} {c6:gh} {f7:Nat} {c7:gh} {f8:Nat} {c8:gh} {f9:Nat} {c9:gh} {f10:Nat} {c10:gh}
theorem cD (h1:Valid P E f1 c1):fY P E [(f1,c1)]:=.cons h1 .nil
theorem eP (h1:Valid P E f1 c1)(h2:Valid P E f2 c2):fY P E [(f1,c1),(f2,c2)]:=.cons h1 (cD h2)
theorem kC (h1:Valid P E f1 c1)(h2:Valid P E f2 c2)(h3:Valid P E f3 c3):fY P E [(f1,c1),(f2,c2),(f3,c3)]:=.cons h1 (eP h2 h3)
theorem kE (h1:Valid P E f1 c1)(h2:Valid P E f2 c2)(h3:Valid P E f3 c3)(h4:Valid P E f4 c4):fY P E [(f1,c1),(f2,c2),(f3,c3),(f4,c4)]:=.cons h1 (kC h2 h3 h4)
theorem xy (h1:Valid P E f1 c1)(h2:Valid P E f2 c2)(h3:Valid P E f3 c3)(h4:Valid P E f4 c4)(h5:Valid P E f5 c5):fY P E [(f1,c1),(f2,c2),(f3,c3),(f4,c4),(f5,c5)]:=.cons h1 (kE h2 h3 h4 h5)
theorem AD (h1:Valid P E f1 c1)(h2:Valid P E f2 c2)(h3:Valid P E f3 c3)(h4:Valid P E f4 c4)(h5:Valid P E f5 c5)(h6:Valid P E f6 c6):fY P E [(f1,c1),(f2,c2),(f3,c3),(f4,c4),(f5,c5),(f6,c6)]:=.cons h1 (xy h2 h3 h4 h5 h6)
theorem Ae (h1:Valid P E f1 c1)(h2:Valid P E f2 c2)(h3:Valid P E f3 c3)(h4:Valid P E f4 c4)(h5:Valid P E f5 c5)(h6:Valid P E f6 c6)(h7:Valid P E f7 c7):fY P E [(f1,c1),(f2,c2),(f3,c3),(f4,c4),(f5,c5),(f6,c6),(f7,c7)]:=.cons h1 (AD h2 h3 h4 h5 h6 h7)
theorem DH (h1:Valid P E f1 c1)(h2:Valid P E f2 c2)(h3:Valid P E f3 c3)(h4:Valid P E f4 c4)(h5:Valid P E f5 c5)(h6:Valid P E f6 c6)(h7:Valid P E f7 c7)(h8:Valid P E f8 c8):fY P E [(f1,c1),(f2,c2),(f3,c3),(f4,c4),(f5,c5),(f6,c6),(f7,c7),(f8,c8)]:=.cons h1 (Ae h2 h3 h4 h5 h6 h7 h8)
theorem C8 (h1:Valid P E f1 c1)(h2:Valid P E f2 c2)(h3:Valid P E f3 c3)(h4:Valid P E f4 c4)(h5:Valid P E f5 c5)(h6:Valid P E f6 c6)(h7:Valid P E f7 c7)(h8:Valid P E f8 c8)(h9:Valid P E f9 c9):fY P E [(f1,c1),(f2,c2),(f3,c3),(f4,c4),(f5,c5),(f6,c6),(f7,c7),(f8,c8),(f9,c9)]:=.cons h1 (DH h2 h3 h4 h5 h6 h7 h8 h9)
theorem CO (h1:Valid P E f1 c1)(h2:Valid P E f2 c2)(h3:Valid P E f3 c3)(h4:Valid P E f4 c4)(h5:Valid P E f5 c5)(h6:Valid P E f6 c6)(h7:Valid P E f7 c7)(h8:Valid P E f8 c8)(h9:Valid P E f9 c9)(h10:Valid P E f10 c10):fY P E [(f1,c1),(f2,c2),(f3,c3),(f4,c4),(f5,c5),(f6,c6),(f7,c7),(f8,c8),(f9,c9),(f10,c10)]:=.cons h1 (C8 h2 h3 h4 h5 h6 h7 h8 h9 h10)
end
def cV {A A' Z Z':Type}[Im A A'][Im Z Z']{g:A->Prop}{m:A->Z}{a:A}(h:g a):RR (g) (m) (Im.im a)=some (Im.im (m a):Z'):=ud (a:=(a)) h
def cq {A B A' B' Z Z':Type}[Im A A'][Im B B'][Im Z Z']{g:A->B->Prop}{m:A->B->Z}{a:A}{b:B}(h:g a b):RR (p2 g) (u2 m) ((Im.im a:A'),(Im.im b:B'))=some (Im.im (m a b):Z'):=ud (a:=(a,b)) h
def kZ {A B C A' B' C' Z Z':Type}[Im A A'][Im B B'][Im C C'][Im Z Z']{g:A->B->C->Prop}{m:A->B->C->Z}{a:A}{b:B}{c:C}(h:g a b c):RR (p3 g) (u3 m) ((Im.im a:A'),(Im.im b:B'),(Im.im c:C'))=some (Im.im (m a b c):Z'):=ud (a:=(a,b,c)) h
def wH {A B C D A' B' C' D' Z Z':Type}[Im A A'][Im B B'][Im C C'][Im D D'][Im Z Z']{g:A->B->C->D->Prop}{m:A->B->C->D->Z}{a:A}{b:B}{c:C}{d:D}(h:g a b c d):RR (p4 g) (u4 m) ((Im.im a:A'),(Im.im b:B'),(Im.im c:C'),(Im.im d:D'))=some (Im.im (m a b c d):Z'):=ud (a:=(a,b,c,d)) h
def zy {A B C D E A' B' C' D' E' Z Z':Type}[Im A A'][Im B B'][Im C C'][Im D D'][Im E E'][Im Z Z']{g:A->B->C->D->E->Prop}{m:A->B->C->D->E->Z}{a:A}{b:B}{c:C}{d:D}{e:E}(h:g a b c d e):RR (p5 g) (u5 m) ((Im.im a:A'),(Im.im b:B'),(Im.im c:C'),(Im.im d:D'),(Im.im e:E'))=some (Im.im (m a b c d e):Z'):=ud (a:=(a,b,c,d,e)) h
def Ah {A B C D E F A' B' C' D' E' F' Z Z':Type}[Im A A'][Im B B'][Im C C'][Im D D'][Im E E'][Im F F'][Im Z Z']{g:A->B->C->D->E->F->Prop}{m:A->B->C->D->E->F->Z}{a:A}{b:B}{c:C}{d:D}{e:E}{f:F}(h:g a b c d e f):RR (p6 g) (u6 m) ((Im.im a:A'),(Im.im b:B'),(Im.im c:C'),(Im.im d:D'),(Im.im e:E'),(Im.im f:F'))=some (Im.im (m a b c d e f):Z'):=ud (a:=(a,b,c,d,e,f)) h
abbrev k7:List K:=[au,au,.bool,.int .u8]
abbrev f7:List Lf:=[fI,fI,fB,.rd (.int .u8)]
abbrev k8:List K:=[au,au,.bool,.int .u8]
abbrev f8:List Lf:=[fI,fI,fB,.rd (.int .u8)]
abbrev th:List K:=[.str,.int .u64]
abbrev f13:List Lf:=[fS,.rd (.int .u64)]
abbrev tj:List K:=[.str,.int .u64]
abbrev f14:List Lf:=[fS,.rd (.int .u64)]
abbrev DW:List K:=[.sl 152,.sl 162]
abbrev f24:List Lf:=[.fr 152,.fr 162]
abbrev Dn:List K:=[.sl 152,.sl 162]
abbrev f25:List Lf:=[.fr 152,.fr 162]
abbrev DY:List K:=[.sl 171]
abbrev f27:List Lf:=[.fr 171]
abbrev De:List K:=[.sl 171]
abbrev f28:List Lf:=[.fr 171]
abbrev DX:List K:=[.sl 120,.sl 180]
abbrev f35:List Lf:=[.fr 120,.fr 180]
abbrev xg:List K:=[.sl 120,.sl 180]
abbrev f36:List Lf:=[.fr 120,.fr 180]
abbrev DS:List K:=[.str,au,au,.sl 9]
abbrev f37:List Lf:=[fS,fI,fI,.fr 9]
abbrev tw:List K:=[.str,au,au,.sl 9]
abbrev f38:List Lf:=[fS,fI,fI,.fr 9]
abbrev DT:List K:=[.sl 120,.sl 180,au,.str,au,au,.sl 9,.sl 3,au]
abbrev f40:List Lf:=[.fr 120,.fr 180,fI,fS,fI,fI,.fr 9,.fr 3,fI]
abbrev C5:List K:=[.sl 120,.sl 180,au,.str,au,au,.sl 9,.sl 3,au]
abbrev f41:List Lf:=[.fr 120,.fr 180,fI,fS,fI,fI,.fr 9,.fr 3,fI]
abbrev DV:List K:=[.sl 148]
abbrev f45:List Lf:=[.fr 148]
abbrev zh:List K:=[.sl 148]
abbrev f46:List Lf:=[.fr 148]
abbrev D0:List K:=[.sl 120,.sl 180,au,.str,au,au,.sl 9,.sl 3,au,.sl 148]
abbrev f68:List Lf:=[.fr 120,.fr 180,fI,fS,fI,fI,.fr 9,.fr 3,fI,.fr 148]
abbrev C6:List K:=[.sl 120,.sl 180,au,.str,au,au,.sl 9,.sl 3,au,.sl 148]
abbrev f69:List Lf:=[.fr 120,.fr 180,fI,fS,fI,fI,.fr 9,.fr 3,fI,.fr 148]
abbrev DU:List K:=[.str,au]
abbrev f99:List Lf:=[fS,fI]
abbrev Dx:List K:=[.str,au]
abbrev f100:List Lf:=[fS,fI]
abbrev Dk:List K:=[.str,au]
abbrev f101:List Lf:=[fS,fI]
abbrev Dl:List K:=[.sl 233,au]
abbrev f114:List Lf:=[.fr 233,fI]
abbrev B6:List K:=[.sl 233,au]
abbrev f115:List Lf:=[.fr 233,fI]
abbrev Df:List K:=[au,.sl 3]
abbrev f121:List Lf:=[fI,.fr 3]
abbrev pP:List K:=[au,.sl 3]
abbrev f122:List Lf:=[fI,.fr 3]
abbrev Dh:List K:=[au,.str,au,au,.sl 9,.str,au,au,.sl 9,au,.sl 3,au,.sl 3]
abbrev f123:List Lf:=[fI,fS,fI,fI,.fr 9,fS,fI,fI,.fr 9,fI,.fr 3,fI,.fr 3]
abbrev sQ:List K:=[au,.str,au,au,.sl 9,.str,au,au,.sl 9,au,.sl 3,au,.sl 3]
abbrev f124:List Lf:=[fI,fS,fI,fI,.fr 9,fS,fI,fI,.fr 9,fI,.fr 3,fI,.fr 3]
abbrev DK:List K:=[.sl 178,.bool,.str,au,au,.sl 9,au,.sl 3,au,.str,au,au,.sl 9,.str,au,au,.sl 9,au,.sl 3,au,.sl 3]
abbrev f125:List Lf:=[.fr 178,fB,fS,fI,fI,.fr 9,fI,.fr 3,fI,fS,fI,fI,.fr 9,fS,fI,fI,.fr 9,fI,.fr 3,fI,.fr 3]
abbrev sn:List K:=[.sl 178,.bool,.str,au,au,.sl 9,au,.sl 3,au,.str,au,au,.sl 9,.str,au,au,.sl 9,au,.sl 3,au,.sl 3]
abbrev f126:List Lf:=[.fr 178,fB,fS,fI,fI,.fr 9,fI,.fr 3,fI,fS,fI,fI,.fr 9,fS,fI,fI,.fr 9,fI,.fr 3,fI,.fr 3]
abbrev C9:List K:=[.sl 120,.sl 180,.bool,.str,au,au,.sl 9,.bool,.sl 3]
abbrev f129:List Lf:=[.fr 120,.fr 180,fB,fS,fI,fI,.fr 9,fB,.fr 3]
abbrev Ck:List K:=[.sl 120,.sl 180,.bool,.str,au,au,.sl 9,.bool,.sl 3]
abbrev f130:List Lf:=[.fr 120,.fr 180,fB,fS,fI,fI,.fr 9,fB,.fr 3]
abbrev DG:List K:=[.sl 215,au]
abbrev f137:List Lf:=[.fr 215,fI]
abbrev zG:List K:=[.sl 215,au]
abbrev f138:List Lf:=[.fr 215,fI]
abbrev Dd:List K:=[au,.str,.sl 178,.bool,.str,au,au,.sl 9,au,.sl 3,au,.str,au,au,.sl 9,.str,au,au,.sl 9,au,.sl 3,au,.sl 3]
abbrev f147:List Lf:=[fI,fS,.fr 178,fB,fS,fI,fI,.fr 9,fI,.fr 3,fI,fS,fI,fI,.fr 9,fS,fI,fI,.fr 9,fI,.fr 3,fI,.fr 3]
abbrev AS:List K:=[au,.str,.sl 178,.bool,.str,au,au,.sl 9,au,.sl 3,au,.str,au,au,.sl 9,.str,au,au,.sl 9,au,.sl 3,au,.sl 3]
abbrev f148:List Lf:=[fI,fS,.fr 178,fB,fS,fI,fI,.fr 9,fI,.fr 3,fI,fS,fI,fI,.fr 9,fS,fI,fI,.fr 9,fI,.fr 3,fI,.fr 3]
abbrev DJ:List K:=[.sl 3,au]
abbrev f154:List Lf:=[.fr 3,fI]
abbrev BU:List K:=[.sl 3,au]
abbrev f155:List Lf:=[.fr 3,fI]
abbrev DB:List K:=[au,au,au,au,au,au,au,au,.sl 3,au,.sl 3,au,au,.sl 3,au,.bool]
abbrev f156:List Lf:=[fI,fI,fI,fI,fI,fI,fI,fI,.fr 3,fI,.fr 3,fI,fI,.fr 3,fI,fB]
abbrev Cn:List K:=[au,au,au,au,au,au,au,au,.sl 3,au,.sl 3,au,au,.sl 3,au,.bool]
abbrev f157:List Lf:=[fI,fI,fI,fI,fI,fI,fI,fI,.fr 3,fI,.fr 3,fI,fI,.fr 3,fI,fB]
abbrev Di:List K:=[au,au,au,au,au,au,au,au,.sl 3,au,.sl 3,au,au,.sl 3,au,.bool,.sl 315]
abbrev f159:List Lf:=[fI,fI,fI,fI,fI,fI,fI,fI,.fr 3,fI,.fr 3,fI,fI,.fr 3,fI,fB,.fr 315]
abbrev BO:List K:=[au,au,au,au,au,au,au,au,.sl 3,au,.sl 3,au,au,.sl 3,au,.bool,.sl 315]
abbrev f160:List Lf:=[fI,fI,fI,fI,fI,fI,fI,fI,.fr 3,fI,.fr 3,fI,fI,.fr 3,fI,fB,.fr 315]
abbrev Ds:List K:=[au,au,au,au,au,au,au,au,.sl 3,au,.sl 3,au,au,.sl 3,au,.bool,.sl 315,au,au,au,au,au,au,au,au,.sl 3,au,.sl 3,au,au,.sl 3,au,.bool,.sl 315,au,au,au,au,au,au,au,au,.sl 3,au,.sl 3,au,au,.sl 3,au,.bool,.sl 315]
abbrev f161:List Lf:=[fI,fI,fI,fI,fI,fI,fI,fI,.fr 3,fI,.fr 3,fI,fI,.fr 3,fI,fB,.fr 315,fI,fI,fI,fI,fI,fI,fI,fI,.fr 3,fI,.fr 3,fI,fI,.fr 3,fI,fB,.fr 315,fI,fI,fI,fI,fI,fI,fI,fI,.fr 3,fI,.fr 3,fI,fI,.fr 3,fI,fB,.fr 315]
abbrev Cv:List K:=[au,au,au,au,au,au,au,au,.sl 3,au,.sl 3,au,au,.sl 3,au,.bool,.sl 315,au,au,au,au,au,au,au,au,.sl 3,au,.sl 3,au,au,.sl 3,au,.bool,.sl 315,au,au,au,au,au,au,au,au,.sl 3,au,.sl 3,au,au,.sl 3,au,.bool,.sl 315]
abbrev f162:List Lf:=[fI,fI,fI,fI,fI,fI,fI,fI,.fr 3,fI,.fr 3,fI,fI,.fr 3,fI,fB,.fr 315,fI,fI,fI,fI,fI,fI,fI,fI,.fr 3,fI,.fr 3,fI,fI,.fr 3,fI,fB,.fr 315,fI,fI,fI,fI,fI,fI,fI,fI,.fr 3,fI,.fr 3,fI,fI,.fr 3,fI,fB,.fr 315]
abbrev BR:List K:=[.str,au,au,.sl 9]
abbrev f164:List Lf:=[fS,fI,fI,.fr 9]
abbrev B8:List K:=[au,.sl 3]
abbrev f165:List Lf:=[fI,.fr 3]
abbrev Dt:List K:=[au,.str,au,au,.sl 9,.str,au,au,.sl 9,au,.sl 3,au,.sl 3]
abbrev f166:List Lf:=[fI,fS,fI,fI,.fr 9,fS,fI,fI,.fr 9,fI,.fr 3,fI,.fr 3]
abbrev Cg:List K:=[au,.str,au,au,.sl 9,.str,au,au,.sl 9,au,.sl 3,au,.sl 3]
abbrev f167:List Lf:=[fI,fS,fI,fI,.fr 9,fS,fI,fI,.fr 9,fI,.fr 3,fI,.fr 3]
abbrev Dc:List K:=[.sl 160,.bool,.str,au,au,.sl 9,au,.sl 3,au,.str,au,au,.sl 9,.str,au,au,.sl 9,au,.sl 3,au,.sl 3]
abbrev f168:List Lf:=[.fr 160,fB,fS,fI,fI,.fr 9,fI,.fr 3,fI,fS,fI,fI,.fr 9,fS,fI,fI,.fr 9,fI,.fr 3,fI,.fr 3]
abbrev Ce:List K:=[.sl 160,.bool,.str,au,au,.sl 9,au,.sl 3,au,.str,au,au,.sl 9,.str,au,au,.sl 9,au,.sl 3,au,.sl 3]
abbrev f169:List Lf:=[.fr 160,fB,fS,fI,fI,.fr 9,fI,.fr 3,fI,fS,fI,fI,.fr 9,fS,fI,fI,.fr 9,fI,.fr 3,fI,.fr 3]
abbrev DA:List K:=[au,.str,.sl 160,.bool,.str,au,au,.sl 9,au,.sl 3,au,.str,au,au,.sl 9,.str,au,au,.sl 9,au,.sl 3,au,.sl 3]
abbrev f170:List Lf:=[fI,fS,.fr 160,fB,fS,fI,fI,.fr 9,fI,.fr 3,fI,fS,fI,fI,.fr 9,fS,fI,fI,.fr 9,fI,.fr 3,fI,.fr 3]
abbrev Ct:List K:=[au,.str,.sl 160,.bool,.str,au,au,.sl 9,au,.sl 3,au,.str,au,au,.sl 9,.str,au,au,.sl 9,au,.sl 3,au,.sl 3]
abbrev f171:List Lf:=[fI,fS,.fr 160,fB,fS,fI,fI,.fr 9,fI,.fr 3,fI,fS,fI,fI,.fr 9,fS,fI,fI,.fr 9,fI,.fr 3,fI,.fr 3]
abbrev jG:List K:=[.sl 3,au]
abbrev f173:List Lf:=[.fr 3,fI]
abbrev Dw:List K:=[au,au,au,au,au,au,au,au,.sl 3,au,.sl 3,au,au,.sl 3,au,.bool]
abbrev f174:List Lf:=[fI,fI,fI,fI,fI,fI,fI,fI,.fr 3,fI,.fr 3,fI,fI,.fr 3,fI,fB]
abbrev gH:List K:=[au,au,au,au,au,au,au,au,.sl 3,au,.sl 3,au,au,.sl 3,au,.bool]
abbrev f175:List Lf:=[fI,fI,fI,fI,fI,fI,fI,fI,.fr 3,fI,.fr 3,fI,fI,.fr 3,fI,fB]
abbrev Dm:List K:=[au,au,au,au,au,au,au,au,.sl 3,au,.sl 3,au,au,.sl 3,au,.bool,.sl 227]
abbrev f177:List Lf:=[fI,fI,fI,fI,fI,fI,fI,fI,.fr 3,fI,.fr 3,fI,fI,.fr 3,fI,fB,.fr 227]
abbrev lU:List K:=[au,au,au,au,au,au,au,au,.sl 3,au,.sl 3,au,au,.sl 3,au,.bool,.sl 227]
abbrev f178:List Lf:=[fI,fI,fI,fI,fI,fI,fI,fI,.fr 3,fI,.fr 3,fI,fI,.fr 3,fI,fB,.fr 227]
abbrev DE:List K:=[au,au,au,au,au,au,au,au,.sl 3,au,.sl 3,au,au,.sl 3,au,.bool,.sl 227,au,au,au,au,au,au,au,au,.sl 3,au,.sl 3,au,au,.sl 3,au,.bool,.sl 227,au,au,au,au,au,au,au,au,.sl 3,au,.sl 3,au,au,.sl 3,au,.bool,.sl 227]
abbrev f179:List Lf:=[fI,fI,fI,fI,fI,fI,fI,fI,.fr 3,fI,.fr 3,fI,fI,.fr 3,fI,fB,.fr 227,fI,fI,fI,fI,fI,fI,fI,fI,.fr 3,fI,.fr 3,fI,fI,.fr 3,fI,fB,.fr 227,fI,fI,fI,fI,fI,fI,fI,fI,.fr 3,fI,.fr 3,fI,fI,.fr 3,fI,fB,.fr 227]
abbrev uS:List K:=[au,au,au,au,au,au,au,au,.sl 3,au,.sl 3,au,au,.sl 3,au,.bool,.sl 227,au,au,au,au,au,au,au,au,.sl 3,au,.sl 3,au,au,.sl 3,au,.bool,.sl 227,au,au,au,au,au,au,au,au,.sl 3,au,.sl 3,au,au,.sl 3,au,.bool,.sl 227]
abbrev f180:List Lf:=[fI,fI,fI,fI,fI,fI,fI,fI,.fr 3,fI,.fr 3,fI,fI,.fr 3,fI,fB,.fr 227,fI,fI,fI,fI,fI,fI,fI,fI,.fr 3,fI,.fr 3,fI,fI,.fr 3,fI,fB,.fr 227,fI,fI,fI,fI,fI,fI,fI,fI,.fr 3,fI,.fr 3,fI,fI,.fr 3,fI,fB,.fr 227]
abbrev DD:List K:=[.sl 178,.sl 38]
abbrev f214:List Lf:=[.fr 178,.fr 38]
abbrev uQ:List K:=[.sl 178,.sl 38]
abbrev f215:List Lf:=[.fr 178,.fr 38]
abbrev DI:List K:=[au,au]
abbrev f226:List Lf:=[fI,fI]
abbrev Aj:List K:=[au,au]
abbrev f227:List Lf:=[fI,fI]
abbrev Dj:List K:=[.sl 160,.sl 164]
abbrev f232:List Lf:=[.fr 160,.fr 164]
abbrev Co:List K:=[.sl 160,.sl 164]
abbrev f233:List Lf:=[.fr 160,.fr 164]
abbrev Dv:List K:=[.int .i32,.int .u32]
abbrev f276:List Lf:=[.rd (.int .i32),.rd (.int .u32)]
abbrev C7:List K:=[.int .i32,.int .u32]
abbrev f277:List Lf:=[.rd (.int .i32),.rd (.int .u32)]
abbrev CF:List K:=[au,au]
abbrev f315:List Lf:=[fI,fI]
def lC:List (Nat×TI):=[
 (2,⟨[au],false,[],8,false⟩),
 (3,⟨[au],false,[],8,false⟩),
 (4,⟨[.bool],false,[],1,false⟩),
 (5,⟨[.int .u8],false,[],1,false⟩),
 (6,⟨[.int .u8],false,[],1,false⟩),
 (7,⟨k7,true,[(0,2),(1,3),(2,4),(3,6)],24,false⟩),
 (8,⟨k8,true,[(0,2),(1,3),(2,4),(3,6)],24,false⟩),
 (9,⟨[.str],false,[],16,false⟩),
 (10,⟨[.str],false,[],16,false⟩),
 (11,⟨[.str],false,[],16,false⟩),
 (12,⟨[.int .u64],false,[],8,false⟩),
 (13,⟨th,true,[(0,9),(1,12)],24,false⟩),
 (14,⟨tj,true,[(0,9),(1,12)],24,false⟩),
 (21,⟨[.int .i32],false,[],4,false⟩),
 (22,⟨[.sl 152],false,[],24,false⟩),
 (23,⟨[.sl 162],false,[],24,false⟩),
 (24,⟨DW,true,[(0,22),(1,23)],48,false⟩),
 (25,⟨Dn,true,[(0,22),(1,23)],48,false⟩),
 (26,⟨[.sl 171],false,[],24,false⟩),
 (27,⟨DY,true,[(0,26)],24,false⟩),
 (28,⟨De,true,[(0,26)],24,false⟩),
 (29,⟨[.sl 9],false,[],24,false⟩),
 (33,⟨[.sl 120],false,[],24,false⟩),
 (34,⟨[.sl 180],false,[],24,false⟩),
 (35,⟨DX,true,[(0,33),(1,34)],48,false⟩),
 (36,⟨xg,true,[(0,33),(1,34)],48,false⟩),
 (37,⟨DS,true,[(0,9),(1,3),(2,3),(3,29)],56,false⟩),
 (38,⟨tw,true,[(0,9),(1,3),(2,3),(3,29)],56,false⟩),
 (39,⟨[.sl 3],false,[],24,false⟩),
 (40,⟨DT,true,[(0,36),(2,3),(3,38),(7,39),(8,3)],144,false⟩),
 (41,⟨C5,true,[(0,36),(2,3),(3,38),(7,39),(8,3)],144,false⟩),
 (44,⟨[.sl 148],false,[],24,false⟩),
 (45,⟨DV,true,[(0,44)],24,false⟩),
 (46,⟨zh,true,[(0,44)],24,false⟩),
 (57,⟨[.sl 100],false,[],24,false⟩),
 (59,⟨[.sl 101],false,[],24,false⟩),
 (66,⟨[.sl 115],false,[],24,false⟩),
 (68,⟨D0,true,[(0,41),(9,46)],168,false⟩),
 (69,⟨C6,true,[(0,41),(9,46)],168,false⟩),
 (71,⟨[.sl 138],false,[],24,false⟩),
 (99,⟨DU,true,[(0,9),(1,3)],24,false⟩),
 (100,⟨Dx,true,[(0,9),(1,3)],24,true⟩),
 (101,⟨Dk,true,[(0,9),(1,3)],24,true⟩),
 (113,⟨[.sl 233],false,[],24,false⟩),
 (114,⟨Dl,true,[(0,113),(1,3)],32,false⟩),
 (115,⟨B6,true,[(0,113),(1,3)],32,false⟩),
 (119,⟨[.sl 126],false,[],24,false⟩),
 (120,⟨[.sl 178],false,[],24,false⟩),
 (121,⟨Df,true,[(0,3),(1,39)],32,false⟩),
 (122,⟨pP,true,[(0,3),(1,39)],32,false⟩),
 (123,⟨Dh,true,[(0,3),(1,38),(5,38),(9,122),(11,122)],184,false⟩),
 (124,⟨sQ,true,[(0,3),(1,38),(5,38),(9,122),(11,122)],184,false⟩),
 (125,⟨DK,true,[(0,120),(1,4),(2,38),(6,122),(8,124)],304,false⟩),
 (126,⟨sn,true,[(0,120),(1,4),(2,38),(6,122),(8,124)],304,false⟩),
 (129,⟨C9,true,[(0,36),(2,4),(3,38),(7,4),(8,39)],144,false⟩),
 (130,⟨Ck,true,[(0,36),(2,4),(3,38),(7,4),(8,39)],144,false⟩),
 (136,⟨[.sl 215],false,[],24,false⟩),
 (137,⟨DG,true,[(0,136),(1,3)],32,false⟩),
 (138,⟨zG,true,[(0,136),(1,3)],32,false⟩),
 (147,⟨Dd,true,[(0,3),(1,9),(2,126)],328,false⟩),
 (148,⟨AS,true,[(0,3),(1,9),(2,126)],328,false⟩),
 (152,⟨[.sl 160],false,[],24,false⟩),
 (154,⟨DJ,true,[(0,39),(1,3)],32,false⟩),
 (155,⟨BU,true,[(0,39),(1,3)],32,false⟩),
 (156,⟨DB,true,[(0,3),(1,3),(2,3),(3,3),(4,3),(5,3),(6,3),(7,3),(8,155),(10,155),(12,3),(13,155),(15,4)],176,false⟩),
 (157,⟨Cn,true,[(0,3),(1,3),(2,3),(3,3),(4,3),(5,3),(6,3),(7,3),(8,155),(10,155),(12,3),(13,155),(15,4)],176,false⟩),
 (158,⟨[.sl 315],false,[],24,false⟩),
 (159,⟨Di,true,[(0,157),(16,158)],200,false⟩),
 (160,⟨BO,true,[(0,157),(16,158)],200,false⟩),
 (161,⟨Ds,true,[(0,160),(17,160),(34,160)],600,false⟩),
 (162,⟨Cv,true,[(0,160),(17,160),(34,160)],600,false⟩),
 (164,⟨BR,true,[(0,9),(1,3),(2,3),(3,29)],56,false⟩),
 (165,⟨B8,true,[(0,3),(1,39)],32,false⟩),
 (166,⟨Dt,true,[(0,3),(1,164),(5,164),(9,165),(11,165)],184,false⟩),
 (167,⟨Cg,true,[(0,3),(1,164),(5,164),(9,165),(11,165)],184,false⟩),
 (168,⟨Dc,true,[(0,152),(1,4),(2,164),(6,165),(8,167)],304,false⟩),
 (169,⟨Ce,true,[(0,152),(1,4),(2,164),(6,165),(8,167)],304,false⟩),
 (170,⟨DA,true,[(0,3),(1,9),(2,169)],328,false⟩),
 (171,⟨Ct,true,[(0,3),(1,9),(2,169)],328,false⟩),
 (173,⟨jG,true,[(0,39),(1,3)],32,false⟩),
 (174,⟨Dw,true,[(0,3),(1,3),(2,3),(3,3),(4,3),(5,3),(6,3),(7,3),(8,173),(10,173),(12,3),(13,173),(15,4)],176,false⟩),
 (175,⟨gH,true,[(0,3),(1,3),(2,3),(3,3),(4,3),(5,3),(6,3),(7,3),(8,173),(10,173),(12,3),(13,173),(15,4)],176,false⟩),
 (176,⟨[.sl 227],false,[],24,false⟩),
 (177,⟨Dm,true,[(0,175),(16,176)],200,false⟩),
 (178,⟨lU,true,[(0,175),(16,176)],200,false⟩),
 (179,⟨DE,true,[(0,178),(17,178),(34,178)],600,false⟩),
 (180,⟨uS,true,[(0,178),(17,178),(34,178)],600,false⟩),
 (188,⟨[.sl 5],false,[],24,false⟩),
 (213,⟨[.sl 38],false,[],24,false⟩),
 (214,⟨DD,true,[(0,120),(1,213)],48,false⟩),
 (215,⟨uQ,true,[(0,120),(1,213)],48,false⟩),
 (226,⟨DI,true,[(0,3),(1,3)],16,false⟩),
 (227,⟨Aj,true,[(0,3),(1,3)],16,true⟩),
 (231,⟨[.sl 164],false,[],24,false⟩),
 (232,⟨Dj,true,[(0,152),(1,231)],48,false⟩),
 (233,⟨Co,true,[(0,152),(1,231)],48,false⟩),
 (273,⟨[.int .u32],false,[],4,false⟩),
 (276,⟨Dv,true,[(0,21),(1,273)],8,false⟩),
 (277,⟨C7,true,[(0,21),(1,273)],8,false⟩),
 (315,⟨CF,true,[(0,3),(1,3)],16,true⟩),
 (390,⟨[.sl 39],false,[],24,false⟩),
 (391,⟨[.int .u64],false,[],8,false⟩),
 (406,⟨[.int .u8],false,[],1,false⟩),
 (407,⟨[.int .u8],false,[],1,false⟩),
 (410,⟨[.int .i32],false,[],4,false⟩),
 (411,⟨[.int .i32],false,[],4,false⟩),
 (427,⟨[.sl 5],false,[],24,false⟩)]
abbrev Ev:Env:=dV lC
def aC:fm Tryz.prog lC=true:=by kernel_rfl
def mix:Tryz.prog.follows .mixedOrders=true:=by kernel_rfl
abbrev cz:=Valid Tryz.prog Ev
namespace Z0
def F (x0:aB)(x1:Int):aI:=(cond ((i64.wrap (x1 - x0.length))<0) bV (ret ((i64.wrap (x1 - x0.length)))))
def md (a0:List Int)(a1:Int):Int:=gY (eC (fun y:Int=>0) a0) a1
def gd (a0:List Int)(a1:Int):Prop:=(bN maxLen (fun y:Int=>True) a0)/\0<=a1/\a1<=1048576
def R:=cm gd md
def ak {a0 a1}(h:gd a0 a1):R ((a0.map bt),a1)=some (md a0 a1):=cq h
def aT:=CN [pL 3,pI] oI RT.dec R
def aY (a0)(a1)(hg:gd a0 a1):F (a0.map bt) a1=ret (md a0 a1):=by
 obtain ⟨hs,g0,g1⟩:=hg
 unfold F md
 rw [List.length_map,nA g0 g1 hs.1]
 have e:eC (fun y:Int=>0) a0=a0.length:=by
  unfold eC
  have :(a0.map (fun y:Int=>0)).sum=0:=sN (fun _=>rfl) a0
  omega
 rw [e]
 by_cases hc:a1<((a0.length:Nat):Int)
 ·rw [bZ hc,decide_eq_true (by omega)];rfl
 ·rw [cQ hc,decide_eq_false (by omega)];rfl
def af:cz 275 aT:=W2 12 F mix aC aY .nil Tryz.func275
end Z0
namespace Z1
def F (x0:dz)(x1:Int):aI:=(call (Z0.R (x0.aO,x1)) fun v1=>(cond (v1<0) bV (ret v1)))
def md (a0:aR)(a1:Int):Int:=gY (aR.size a0) a1
def gd (a0:aR)(a1:Int):Prop:=(aR.Sm maxLen a0)/\0<=a1/\a1<=1048576
def R:=cm gd md
def ak {a0 a1}(h:gd a0 a1):R ((aR.r a0),a1)=some (md a0 a1):=cq h
def aT:=CN [.agg BU,pI] oI RT.dec R
def aY (a0)(a1)(hg:gd a0 a1):F (aR.r a0) a1=ret (md a0 a1):=by
 obtain ⟨hs,g0,g1⟩:=hg
 unfold md
 show (call (Z0.R ((a0.aO.map bt),a1)) fun v1=>(cond (v1<0) bV (ret (v1:Int))))=_
 rw [call_eq (Z0.ak ⟨hs,by omega,by omega⟩)]
 unfold Z0.md
 by_cases c0:a1<((eC (fun y:Int=>0) a0.aO:Nat):Int)
 ·rw [bZ c0];rw [show gY (aR.size a0) a1=-1 from bZ (by unfold aR.size;omega)];try rfl
 rw [cQ c0,cS (by omega),aX]
 rw [show gY (aR.size a0) a1=a1 - ((eC (fun y:Int=>0) a0.aO:Nat):Int) from by rw [cQ (by unfold aR.size;omega)];unfold aR.size;omega]
def af:cz 274 aT:=W2 12 F mix aC aY (cD Z0.af) Tryz.func274
end Z1
namespace Z2
def F (x0:dI)(x1:Int):aI:=(call (Z1.R (x0.bU,x1)) fun v1=>(cond (v1<0) bV (call (Z1.R (x0.bF,v1)) fun v2=>(cond (v2<0) bV (call (Z1.R (x0.bC,v2)) fun v3=>(cond (v3<0) bV (ret v3)))))))
def md (a0:aF)(a1:Int):Int:=gY (aF.size a0) a1
def gd (a0:aF)(a1:Int):Prop:=(aF.Sm maxLen a0)/\0<=a1/\a1<=1048576
def R:=cm gd md
def ak {a0 a1}(h:gd a0 a1):R ((aF.r a0),a1)=some (md a0 a1):=cq h
def aT:=CN [.agg Cn,pI] oI RT.dec R
def aY (a0)(a1)(hg:gd a0 a1):F (aF.r a0) a1=ret (md a0 a1):=by
 obtain ⟨hs,g0,g1⟩:=hg
 unfold md
 show (call (Z1.R ((aR.r a0.bU),a1)) fun v1=>(bif (decide (v1<0)) then ret ((-1):Int) else (call (Z1.R ((aR.r a0.bF),v1)) fun v2=>(bif (decide (v2<0)) then ret ((-1):Int) else (call (Z1.R ((aR.r a0.bC),v2)) fun v3=>(cond (v3<0) bV (ret (v3:Int))))))))=_
 rw [call_eq (Z1.ak ⟨hs.1,by omega,by omega⟩)]
 unfold Z1.md
 by_cases c0:a1<((aR.size a0.bU:Nat):Int)
 ·rw [bZ c0];rw [show gY (aF.size a0) a1=-1 from bZ (by unfold aF.size;omega)];try rfl
 rw [cQ c0,cS (by omega),aX]
 rw [call_eq (Z1.ak ⟨hs.2.1,by omega,by omega⟩)]
 unfold Z1.md
 by_cases c1:(a1 - ((aR.size a0.bU:Nat):Int))<((aR.size a0.bF:Nat):Int)
 ·rw [bZ c1];rw [show gY (aF.size a0) a1=-1 from bZ (by unfold aF.size;omega)];try rfl
 rw [cQ c1,cS (by omega),aX]
 rw [call_eq (Z1.ak ⟨hs.2.2,by omega,by omega⟩)]
 unfold Z1.md
 by_cases c2:(a1 - ((aR.size a0.bU:Nat):Int) - ((aR.size a0.bF:Nat):Int))<((aR.size a0.bC:Nat):Int)
 ·rw [bZ c2];rw [show gY (aF.size a0) a1=-1 from bZ (by unfold aF.size;omega)];try rfl
 rw [cQ c2,cS (by omega),aX]
 rw [show gY (aF.size a0) a1=a1 - ((aR.size a0.bU:Nat):Int) - ((aR.size a0.bF:Nat):Int) - ((aR.size a0.bC:Nat):Int) from by rw [cQ (by unfold aF.size;omega)];unfold aF.size;omega]
def af:cz 210 aT:=W2 24 F mix aC aY (cD Z1.af) Tryz.func210
end Z2
namespace Z3
def F (x0:aB)(x1:Int):aI:=(cond ((i64.wrap (x1 - x0.length))<0) bV (ret ((i64.wrap (x1 - x0.length)))))
def md (a0:List bn)(a1:Int):Int:=gY (eC (fun y:bn=>bn.size y) a0) a1
def gd (a0:List bn)(a1:Int):Prop:=(bN maxLen (fun y:bn=>bn.Sm maxLen y) a0)/\0<=a1/\a1<=1048576
def R:=cm gd md
def ak {a0 a1}(h:gd a0 a1):R ((a0.map bn.row),a1)=some (md a0 a1):=cq h
def aT:=CN [pL 315,pI] oI RT.dec R
def aY (a0)(a1)(hg:gd a0 a1):F (a0.map bn.row) a1=ret (md a0 a1):=by
 obtain ⟨hs,g0,g1⟩:=hg
 unfold F md
 rw [List.length_map,nA g0 g1 hs.1]
 have e:eC (fun y:bn=>bn.size y) a0=a0.length:=by
  unfold eC
  have :(a0.map (fun y:bn=>bn.size y)).sum=0:=sN (fun _=>rfl) a0
  omega
 rw [e]
 by_cases hc:a1<((a0.length:Nat):Int)
 ·rw [bZ hc,decide_eq_true (by omega)];rfl
 ·rw [cQ hc,decide_eq_false (by omega)];rfl
def af:cz 211 aT:=W2 12 F mix aC aY .nil Tryz.func211
end Z3
namespace Z4
def F (x0:bf)(x1:Int):aI:=(call (Z2.R (x0.an,x1)) fun v1=>(cond (v1<0) bV (call (Z3.R (x0.cP,v1)) fun v2=>(cond (v2<0) bV (ret v2)))))
def md (a0:aa)(a1:Int):Int:=gY (aa.size a0) a1
def gd (a0:aa)(a1:Int):Prop:=(aa.Sm maxLen a0)/\0<=a1/\a1<=1048576
def R:=cm gd md
def ak {a0 a1}(h:gd a0 a1):R ((aa.r a0),a1)=some (md a0 a1):=cq h
def aT:=CN [.agg BO,pI] oI RT.dec R
def aY (a0)(a1)(hg:gd a0 a1):F (aa.r a0) a1=ret (md a0 a1):=by
 obtain ⟨hs,g0,g1⟩:=hg
 unfold md
 show (call (Z2.R ((aF.r a0.an),a1)) fun v1=>(bif (decide (v1<0)) then ret ((-1):Int) else (call (Z3.R ((a0.cP.map bn.row),v1)) fun v2=>(cond (v2<0) bV (ret (v2:Int))))))=_
 rw [call_eq (Z2.ak ⟨hs.1,by omega,by omega⟩)]
 unfold Z2.md
 by_cases c0:a1<((aF.size a0.an:Nat):Int)
 ·rw [bZ c0];rw [show gY (aa.size a0) a1=-1 from bZ (by unfold aa.size;omega)];try rfl
 rw [cQ c0,cS (by omega),aX]
 rw [call_eq (Z3.ak ⟨hs.2,by omega,by omega⟩)]
 unfold Z3.md
 by_cases c1:(a1 - ((aF.size a0.an:Nat):Int))<((eC (fun y:bn=>bn.size y) a0.cP:Nat):Int)
 ·rw [bZ c1];rw [show gY (aa.size a0) a1=-1 from bZ (by unfold aa.size;omega)];try rfl
 rw [cQ c1,cS (by omega),aX]
 rw [show gY (aa.size a0) a1=a1 - ((aF.size a0.an:Nat):Int) - ((eC (fun y:bn=>bn.size y) a0.cP:Nat):Int) from by rw [cQ (by unfold aa.size;omega)];unfold aa.size;omega]
def af:cz 160 aT:=W2 18 F mix aC aY (eP Z2.af Z3.af) Tryz.func160
end Z4
namespace Z5
inductive Pt where
 | p0 (a:aB) (b c:Int)
def cu:Pt->List V
 | .p0 a b c=>[.sl none 160 a,.int .i64 b,.int .i64 c]
def step (J:Pt->aI):Pt->aI
 | .p0 a b c=>(cond (c<(a.length:Int)) (m2 c (a.length:Int) (call (Z4.R ((bf.at a (toNat c)),b)) fun v1=>(cond (v1<0) bV (J (.p0 a v1 (i64.wrap (c+1))))))) (ret (b:Int)))
def start (J:Pt->aI)(x0:aB)(x1:Int):aI:=(cond ((i64.wrap (x1 - x0.length))<0) bV (J (.p0 x0 (i64.wrap (x1 - x0.length)) 0)))
def live:Nat->Live:=fK [(5,gj [0,1,5])]
def md (a0:List aa)(a1:Int):Int:=gY (eC (fun y:aa=>aa.size y) a0) a1
def gd (a0:List aa)(a1:Int):Prop:=(bN maxLen (fun y:aa=>aa.Sm maxLen y) a0)/\0<=a1/\a1<=1048576
def R:=cm gd md
def ak {a0 a1}(h:gd a0 a1):R ((a0.map aa.row),a1)=some (md a0 a1):=cq h
def aT:=CN [pL 160,pI] oI RT.dec R
def aY (a0)(a1)(hg:gd a0 a1):∃n,start (iter step n) (a0.map aa.row) a1=ret (md a0 a1):=by
 obtain ⟨hs,g0,g1⟩:=hg
 unfold start md
 simp only [List.length_map]
 refine kN (pt:=fun left i=>Pt.p0 (a0.map aa.row) left (i:Int)) (f:=fun y:aa=>aa.size y) hs.1 (fun J i h left p0 p1=>?_) (fun J left=>?_) g0 g1
 ·simp only [step,MM,List.length_map,aK h,aD,aZ,cM,aa.eT h]
  rw [call_eq (Z4.ak ⟨hs.get h,p0,p1⟩),aH h hs.1]
  unfold Z4.md
  by_cases hc:left<((aa.size (a0[i]):Nat):Int)
  ·rw [bZ hc,if_pos hc];rfl
  ·rw [cQ hc,if_neg hc,cS (by omega)];rfl
 ·simp only [step,List.length_map,eM,aX]
def af:cz 108 aT:=L2 27 (fun _=>5) cu (fun _=>[]) live step start mix aC aY (cD Z4.af) Tryz.func108
end Z5
namespace Z6
inductive Pt where
 | p0 (a:aB) (b c:Int)
def cu:Pt->List V
 | .p0 a b c=>[.sl none 152 a,.int .i64 b,.int .i64 c]
def step (J:Pt->aI):Pt->aI
 | .p0 a b c=>(cond (c<(a.length:Int)) (m2 c (a.length:Int) (call (Z5.R ((qi a (toNat c)),b)) fun v1=>(cond (v1<0) bV (J (.p0 a v1 (i64.wrap (c+1))))))) (ret (b:Int)))
def start (J:Pt->aI)(x0:aB)(x1:Int):aI:=(cond ((i64.wrap (x1 - x0.length))<0) bV (J (.p0 x0 (i64.wrap (x1 - x0.length)) 0)))
def live:Nat->Live:=fK [(5,gj [0,1,5])]
def md (a0:List (List aa))(a1:Int):Int:=gY (eC (fun y:List aa=>eC (fun y:aa=>aa.size y) y) a0) a1
def gd (a0:List (List aa))(a1:Int):Prop:=(bN maxLen (fun y:List aa=>bN maxLen (fun y:aa=>aa.Sm maxLen y) y) a0)/\0<=a1/\a1<=1048576
def R:=cm gd md
def ak {a0 a1}(h:gd a0 a1):R ((a0.map (eK aa.row)),a1)=some (md a0 a1):=cq h
def aT:=CN [pL 152,pI] oI RT.dec R
def aY (a0)(a1)(hg:gd a0 a1):∃n,start (iter step n) (a0.map (eK aa.row)) a1=ret (md a0 a1):=by
 obtain ⟨hs,g0,g1⟩:=hg
 unfold start md
 simp only [List.length_map]
 refine kN (pt:=fun left i=>Pt.p0 (a0.map (eK aa.row)) left (i:Int)) (f:=fun y:List aa=>eC (fun y:aa=>aa.size y) y) hs.1 (fun J i h left p0 p1=>?_) (fun J left=>?_) g0 g1
 ·simp only [step,MM,List.length_map,aK h,aD,aZ,cM,ru h]
  rw [call_eq (Z5.ak ⟨hs.get h,p0,p1⟩),aH h hs.1]
  unfold Z5.md
  by_cases hc:left<((eC (fun y:aa=>aa.size y) (a0[i]):Nat):Int)
  ·rw [bZ hc,if_pos hc];rfl
  ·rw [cQ hc,if_neg hc,cS (by omega)];rfl
 ·simp only [step,List.length_map,eM,aX]
def af:cz 46 aT:=L2 27 (fun _=>5) cu (fun _=>[]) live step start mix aC aY (cD Z5.af) Tryz.func46
end Z6
namespace Z7
def F (x0:bO)(x1:Int):aI:=(call (Z4.R (x0.aN,x1)) fun v1=>(cond (v1<0) bV (call (Z4.R (x0.fA,v1)) fun v2=>(cond (v2<0) bV (call (Z4.R (x0.fB,v2)) fun v3=>(cond (v3<0) bV (ret v3)))))))
def md (a0:aG)(a1:Int):Int:=gY (aG.size a0) a1
def gd (a0:aG)(a1:Int):Prop:=(aG.Sm maxLen a0)/\0<=a1/\a1<=1048576
def R:=cm gd md
def ak {a0 a1}(h:gd a0 a1):R ((aG.r a0),a1)=some (md a0 a1):=cq h
def aT:=CN [.agg Cv,pI] oI RT.dec R
def aY (a0)(a1)(hg:gd a0 a1):F (aG.r a0) a1=ret (md a0 a1):=by
 obtain ⟨hs,g0,g1⟩:=hg
 unfold md
 show (call (Z4.R ((aa.r a0.aN),a1)) fun v1=>(bif (decide (v1<0)) then ret ((-1):Int) else (call (Z4.R ((aa.r a0.fA),v1)) fun v2=>(bif (decide (v2<0)) then ret ((-1):Int) else (call (Z4.R ((aa.r a0.fB),v2)) fun v3=>(cond (v3<0) bV (ret (v3:Int))))))))=_
 rw [call_eq (Z4.ak ⟨hs.1,by omega,by omega⟩)]
 unfold Z4.md
 by_cases c0:a1<((aa.size a0.aN:Nat):Int)
 ·rw [bZ c0];rw [show gY (aG.size a0) a1=-1 from bZ (by unfold aG.size;omega)];try rfl
 rw [cQ c0,cS (by omega),aX]
 rw [call_eq (Z4.ak ⟨hs.2.1,by omega,by omega⟩)]
 unfold Z4.md
 by_cases c1:(a1 - ((aa.size a0.aN:Nat):Int))<((aa.size a0.fA:Nat):Int)
 ·rw [bZ c1];rw [show gY (aG.size a0) a1=-1 from bZ (by unfold aG.size;omega)];try rfl
 rw [cQ c1,cS (by omega),aX]
 rw [call_eq (Z4.ak ⟨hs.2.2,by omega,by omega⟩)]
 unfold Z4.md
 by_cases c2:(a1 - ((aa.size a0.aN:Nat):Int) - ((aa.size a0.fA:Nat):Int))<((aa.size a0.fB:Nat):Int)
 ·rw [bZ c2];rw [show gY (aG.size a0) a1=-1 from bZ (by unfold aG.size;omega)];try rfl
 rw [cQ c2,cS (by omega),aX]
 rw [show gY (aG.size a0) a1=a1 - ((aa.size a0.aN:Nat):Int) - ((aa.size a0.fA:Nat):Int) - ((aa.size a0.fB:Nat):Int) from by rw [cQ (by unfold aG.size;omega)];unfold aG.size;omega]
def af:cz 109 aT:=W2 24 F mix aC aY (cD Z4.af) Tryz.func109
end Z7
namespace Z8
inductive Pt where
 | p0 (a:aB) (b c:Int)
def cu:Pt->List V
 | .p0 a b c=>[.sl none 162 a,.int .i64 b,.int .i64 c]
def step (J:Pt->aI):Pt->aI
 | .p0 a b c=>(cond (c<(a.length:Int)) (m2 c (a.length:Int) (call (Z7.R ((bO.at a (toNat c)),b)) fun v1=>(cond (v1<0) bV (J (.p0 a v1 (i64.wrap (c+1))))))) (ret (b:Int)))
def start (J:Pt->aI)(x0:aB)(x1:Int):aI:=(cond ((i64.wrap (x1 - x0.length))<0) bV (J (.p0 x0 (i64.wrap (x1 - x0.length)) 0)))
def live:Nat->Live:=fK [(5,gj [0,1,5])]
def md (a0:List aG)(a1:Int):Int:=gY (eC (fun y:aG=>aG.size y) a0) a1
def gd (a0:List aG)(a1:Int):Prop:=(bN maxLen (fun y:aG=>aG.Sm maxLen y) a0)/\0<=a1/\a1<=1048576
def R:=cm gd md
def ak {a0 a1}(h:gd a0 a1):R ((a0.map aG.row),a1)=some (md a0 a1):=cq h
def aT:=CN [pL 162,pI] oI RT.dec R
def aY (a0)(a1)(hg:gd a0 a1):∃n,start (iter step n) (a0.map aG.row) a1=ret (md a0 a1):=by
 obtain ⟨hs,g0,g1⟩:=hg
 unfold start md
 simp only [List.length_map]
 refine kN (pt:=fun left i=>Pt.p0 (a0.map aG.row) left (i:Int)) (f:=fun y:aG=>aG.size y) hs.1 (fun J i h left p0 p1=>?_) (fun J left=>?_) g0 g1
 ·simp only [step,MM,List.length_map,aK h,aD,aZ,cM,aG.eT h]
  rw [call_eq (Z7.ak ⟨hs.get h,p0,p1⟩),aH h hs.1]
  unfold Z7.md
  by_cases hc:left<((aG.size (a0[i]):Nat):Int)
  ·rw [bZ hc,if_pos hc];rfl
  ·rw [cQ hc,if_neg hc,cS (by omega)];rfl
 ·simp only [step,List.length_map,eM,aX]
def af:cz 47 aT:=L2 27 (fun _=>5) cu (fun _=>[]) live step start mix aC aY (cD Z7.af) Tryz.func47
end Z8
namespace Z9
def F (x0:bA)(x1:Int):aI:=(call (Z6.R (x0.aM,x1)) fun v1=>(cond (v1<0) bV (call (Z8.R (x0.bu,v1)) fun v2=>(cond (v2<0) bV (ret v2)))))
def md (a0:aA)(a1:Int):Int:=gY (aA.size a0) a1
def gd (a0:aA)(a1:Int):Prop:=(aA.Sm maxLen a0)/\0<=a1/\a1<=1048576
def R:=cm gd md
def ak {a0 a1}(h:gd a0 a1):R ((aA.r a0),a1)=some (md a0 a1):=cq h
def aT:=CN [.agg Dn,pI] oI RT.dec R
def aY (a0)(a1)(hg:gd a0 a1):F (aA.r a0) a1=ret (md a0 a1):=by
 obtain ⟨hs,g0,g1⟩:=hg
 unfold md
 show (call (Z6.R ((a0.aM.map (eK aa.row)),a1)) fun v1=>(bif (decide (v1<0)) then ret ((-1):Int) else (call (Z8.R ((a0.bu.map aG.row),v1)) fun v2=>(cond (v2<0) bV (ret (v2:Int))))))=_
 rw [call_eq (Z6.ak ⟨hs.1,by omega,by omega⟩)]
 unfold Z6.md
 by_cases c0:a1<((eC (fun y:List aa=>eC (fun y:aa=>aa.size y) y) a0.aM:Nat):Int)
 ·rw [bZ c0];rw [show gY (aA.size a0) a1=-1 from bZ (by unfold aA.size;omega)];try rfl
 rw [cQ c0,cS (by omega),aX]
 rw [call_eq (Z8.ak ⟨hs.2,by omega,by omega⟩)]
 unfold Z8.md
 by_cases c1:(a1 - ((eC (fun y:List aa=>eC (fun y:aa=>aa.size y) y) a0.aM:Nat):Int))<((eC (fun y:aG=>aG.size y) a0.bu:Nat):Int)
 ·rw [bZ c1];rw [show gY (aA.size a0) a1=-1 from bZ (by unfold aA.size;omega)];try rfl
 rw [cQ c1,cS (by omega),aX]
 rw [show gY (aA.size a0) a1=a1 - ((eC (fun y:List aa=>eC (fun y:aa=>aa.size y) y) a0.aM:Nat):Int) - ((eC (fun y:aG=>aG.size y) a0.bu:Nat):Int) from by rw [cQ (by unfold aA.size;omega)];unfold aA.size;omega]
def af:cz 8 aT:=W2 18 F mix aC aY (eP Z6.af Z8.af) Tryz.func8
end Z9
namespace Z10
inductive Pt where
 | p0 (a:aB) (b c:Int)
def cu:Pt->List V
 | .p0 a b c=>[.sl none 9 a,.int .i64 b,.int .i64 c]
def step (J:Pt->aI):Pt->aI
 | .p0 a b c=>(cond (c<(a.length:Int)) (m2 c (a.length:Int) (cond ((i64.wrap (b - ((qS a (toNat c)).size:Int)))<0) bV (J (.p0 a (i64.wrap (b - ((qS a (toNat c)).size:Int))) (i64.wrap (c+1)))))) (ret (b:Int)))
def start (J:Pt->aI)(x0:aB)(x1:Int):aI:=(cond ((i64.wrap (x1 - x0.length))<0) bV (J (.p0 x0 (i64.wrap (x1 - x0.length)) 0)))
def live:Nat->Live:=fK [(5,gj [0,1,5])]
def md (a0:List aE)(a1:Int):Int:=gY (eC (fun y:aE=>y.size) a0) a1
def gd (a0:List aE)(a1:Int):Prop:=(bN maxLen (fun y:aE=>y.size<=maxLen) a0)/\0<=a1/\a1<=1048576
def R:=cm gd md
def ak {a0 a1}(h:gd a0 a1):R ((a0.map cX),a1)=some (md a0 a1):=cq h
def aT:=CN [pL 9,pI] oI RT.dec R
def aY (a0)(a1)(hg:gd a0 a1):∃n,start (iter step n) (a0.map cX) a1=ret (md a0 a1):=by
 obtain ⟨hs,g0,g1⟩:=hg
 unfold start md
 simp only [List.length_map]
 refine kN (pt:=fun left i=>Pt.p0 (a0.map cX) left (i:Int)) (f:=fun y:aE=>y.size) hs.1 (fun J i h left p0 p1=>?_) (fun J left=>?_) g0 g1
 ·simp only [step,MM,List.length_map,aK h,aD,aZ,cM,rj h]
  rw [nA p0 p1 (hs.get h),aH h hs.1]
  by_cases hc:left - ((a0[i].size:Nat):Int)<0
  ·rw [decide_eq_true hc,if_pos (by omega)];rfl
  ·rw [decide_eq_false hc,if_neg (by omega)];rfl
 ·simp only [step,List.length_map,eM,aX]
def af:cz 10 aT:=L2 28 (fun _=>5) cu (fun _=>[]) live step start mix aC aY .nil Tryz.func10
end Z10
namespace Z11
def F (x0:bK)(x1:Int):aI:=(cond ((i64.wrap (x1 - x0.aV.size))<0) bV (call (Z10.R (x0.bh,(i64.wrap (x1 - x0.aV.size)))) fun v1=>(cond (v1<0) bV (ret v1))))
def md (a0:ah)(a1:Int):Int:=gY (ah.size a0) a1
def gd (a0:ah)(a1:Int):Prop:=(ah.Sm maxLen a0)/\0<=a1/\a1<=1048576
def R:=cm gd md
def ak {a0 a1}(h:gd a0 a1):R ((ah.r a0),a1)=some (md a0 a1):=cq h
def aT:=CN [.agg BR,pI] oI RT.dec R
def aY (a0)(a1)(hg:gd a0 a1):F (ah.r a0) a1=ret (md a0 a1):=by
 obtain ⟨hs,g0,g1⟩:=hg
 unfold md
 show (bif (decide ((i64.wrap (a1 - (a0.aV.size:Int)))<0)) then ret ((-1):Int) else (call (Z10.R ((a0.bh.map cX),(i64.wrap (a1 - (a0.aV.size:Int))))) fun v1=>(cond (v1<0) bV (ret (v1:Int)))))=_
 rw [nA (left:=a1) (by omega) (by omega) hs.1]
 by_cases c0:a1 - ((a0.aV.size:Nat):Int)<0
 ·rw [decide_eq_true c0,aZ];rw [show gY (ah.size a0) a1=-1 from bZ (by unfold ah.size;omega)];try rfl
 rw [decide_eq_false c0,aX]
 rw [call_eq (Z10.ak ⟨hs.2,by omega,by omega⟩)]
 unfold Z10.md
 by_cases c1:(a1 - ((a0.aV.size:Nat):Int))<((eC (fun y:aE=>y.size) a0.bh:Nat):Int)
 ·rw [bZ c1];rw [show gY (ah.size a0) a1=-1 from bZ (by unfold ah.size;omega)];try rfl
 rw [cQ c1,cS (by omega),aX]
 rw [show gY (ah.size a0) a1=a1 - ((a0.aV.size:Nat):Int) - ((eC (fun y:aE=>y.size) a0.bh:Nat):Int) from by rw [cQ (by unfold ah.size;omega)];unfold ah.size;omega]
def af:cz 212 aT:=W2 19 F mix aC aY (cD Z10.af) Tryz.func212
end Z11
namespace Z12
def F (x0:dX)(x1:Int):aI:=(call (Z0.R (x0.bh,x1)) fun v1=>(cond (v1<0) bV (ret v1)))
def md (a0:aL)(a1:Int):Int:=gY (aL.size a0) a1
def gd (a0:aL)(a1:Int):Prop:=(aL.Sm maxLen a0)/\0<=a1/\a1<=1048576
def R:=cm gd md
def ak {a0 a1}(h:gd a0 a1):R ((aL.r a0),a1)=some (md a0 a1):=cq h
def aT:=CN [.agg B8,pI] oI RT.dec R
def aY (a0)(a1)(hg:gd a0 a1):F (aL.r a0) a1=ret (md a0 a1):=by
 obtain ⟨hs,g0,g1⟩:=hg
 unfold md
 show (call (Z0.R ((a0.bh.map bt),a1)) fun v1=>(cond (v1<0) bV (ret (v1:Int))))=_
 rw [call_eq (Z0.ak ⟨hs,by omega,by omega⟩)]
 unfold Z0.md
 by_cases c0:a1<((eC (fun y:Int=>0) a0.bh:Nat):Int)
 ·rw [bZ c0];rw [show gY (aL.size a0) a1=-1 from bZ (by unfold aL.size;omega)];try rfl
 rw [cQ c0,cS (by omega),aX]
 rw [show gY (aL.size a0) a1=a1 - ((eC (fun y:Int=>0) a0.bh:Nat):Int) from by rw [cQ (by unfold aL.size;omega)];unfold aL.size;omega]
def af:cz 213 aT:=W2 12 F mix aC aY (cD Z0.af) Tryz.func213
end Z12
namespace Z13
def F (x0:ff)(x1:Int):aI:=(call (Z11.R (x0.aN,x1)) fun v1=>(cond (v1<0) bV (call (Z11.R (x0.bT,v1)) fun v2=>(cond (v2<0) bV (call (Z12.R (x0.dN,v2)) fun v3=>(cond (v3<0) bV (call (Z12.R (x0.cA,v3)) fun v4=>(cond (v4<0) bV (ret v4)))))))))
def md (a0:bL)(a1:Int):Int:=gY (bL.size a0) a1
def gd (a0:bL)(a1:Int):Prop:=(bL.Sm maxLen a0)/\0<=a1/\a1<=1048576
def R:=cm gd md
def ak {a0 a1}(h:gd a0 a1):R ((bL.r a0),a1)=some (md a0 a1):=cq h
def aT:=CN [.agg Cg,pI] oI RT.dec R
def aY (a0)(a1)(hg:gd a0 a1):F (bL.r a0) a1=ret (md a0 a1):=by
 obtain ⟨hs,g0,g1⟩:=hg
 unfold md
 show (call (Z11.R ((ah.r a0.aN),a1)) fun v1=>(bif (decide (v1<0)) then ret ((-1):Int) else (call (Z11.R ((ah.r a0.bT),v1)) fun v2=>(bif (decide (v2<0)) then ret ((-1):Int) else (call (Z12.R ((aL.r a0.dN),v2)) fun v3=>(bif (decide (v3<0)) then ret ((-1):Int) else (call (Z12.R ((aL.r a0.cA),v3)) fun v4=>(cond (v4<0) bV (ret (v4:Int))))))))))=_
 rw [call_eq (Z11.ak ⟨hs.1,by omega,by omega⟩)]
 unfold Z11.md
 by_cases c0:a1<((ah.size a0.aN:Nat):Int)
 ·rw [bZ c0];rw [show gY (bL.size a0) a1=-1 from bZ (by unfold bL.size;omega)];try rfl
 rw [cQ c0,cS (by omega),aX]
 rw [call_eq (Z11.ak ⟨hs.2.1,by omega,by omega⟩)]
 unfold Z11.md
 by_cases c1:(a1 - ((ah.size a0.aN:Nat):Int))<((ah.size a0.bT:Nat):Int)
 ·rw [bZ c1];rw [show gY (bL.size a0) a1=-1 from bZ (by unfold bL.size;omega)];try rfl
 rw [cQ c1,cS (by omega),aX]
 rw [call_eq (Z12.ak ⟨hs.2.2.1,by omega,by omega⟩)]
 unfold Z12.md
 by_cases c2:(a1 - ((ah.size a0.aN:Nat):Int) - ((ah.size a0.bT:Nat):Int))<((aL.size a0.dN:Nat):Int)
 ·rw [bZ c2];rw [show gY (bL.size a0) a1=-1 from bZ (by unfold bL.size;omega)];try rfl
 rw [cQ c2,cS (by omega),aX]
 rw [call_eq (Z12.ak ⟨hs.2.2.2,by omega,by omega⟩)]
 unfold Z12.md
 by_cases c3:(a1 - ((ah.size a0.aN:Nat):Int) - ((ah.size a0.bT:Nat):Int) - ((aL.size a0.dN:Nat):Int))<((aL.size a0.cA:Nat):Int)
 ·rw [bZ c3];rw [show gY (bL.size a0) a1=-1 from bZ (by unfold bL.size;omega)];try rfl
 rw [cQ c3,cS (by omega),aX]
 rw [show gY (bL.size a0) a1=a1 - ((ah.size a0.aN:Nat):Int) - ((ah.size a0.bT:Nat):Int) - ((aL.size a0.dN:Nat):Int) - ((aL.size a0.cA:Nat):Int) from by rw [cQ (by unfold bL.size;omega)];unfold bL.size;omega]
def af:cz 214 aT:=W2 30 F mix aC aY (eP Z11.af Z12.af) Tryz.func214
end Z13
namespace Z14
def F (x0:bq)(x1:Int):aI:=(call (Z5.R (x0.aQ,x1)) fun v1=>(cond (v1<0) bV (call (Z11.R (x0.aS,v1)) fun v2=>(cond (v2<0) bV (call (Z12.R (x0.dy,v2)) fun v3=>(cond (v3<0) bV (call (Z13.R (x0.dA,v3)) fun v4=>(cond (v4<0) bV (ret v4)))))))))
def md (a0:aq)(a1:Int):Int:=gY (aq.size a0) a1
def gd (a0:aq)(a1:Int):Prop:=(aq.Sm maxLen a0)/\0<=a1/\a1<=1048576
def R:=cm gd md
def ak {a0 a1}(h:gd a0 a1):R ((aq.r a0),a1)=some (md a0 a1):=cq h
def aT:=CN [.agg Ce,pI] oI RT.dec R
def aY (a0)(a1)(hg:gd a0 a1):F (aq.r a0) a1=ret (md a0 a1):=by
 obtain ⟨hs,g0,g1⟩:=hg
 unfold md
 show (call (Z5.R ((a0.aQ.map aa.row),a1)) fun v1=>(bif (decide (v1<0)) then ret ((-1):Int) else (call (Z11.R ((ah.r a0.aS),v1)) fun v2=>(bif (decide (v2<0)) then ret ((-1):Int) else (call (Z12.R ((aL.r a0.dy),v2)) fun v3=>(bif (decide (v3<0)) then ret ((-1):Int) else (call (Z13.R ((bL.r a0.dA),v3)) fun v4=>(cond (v4<0) bV (ret (v4:Int))))))))))=_
 rw [call_eq (Z5.ak ⟨hs.1,by omega,by omega⟩)]
 unfold Z5.md
 by_cases c0:a1<((eC (fun y:aa=>aa.size y) a0.aQ:Nat):Int)
 ·rw [bZ c0];rw [show gY (aq.size a0) a1=-1 from bZ (by unfold aq.size;omega)];try rfl
 rw [cQ c0,cS (by omega),aX]
 rw [call_eq (Z11.ak ⟨hs.2.1,by omega,by omega⟩)]
 unfold Z11.md
 by_cases c1:(a1 - ((eC (fun y:aa=>aa.size y) a0.aQ:Nat):Int))<((ah.size a0.aS:Nat):Int)
 ·rw [bZ c1];rw [show gY (aq.size a0) a1=-1 from bZ (by unfold aq.size;omega)];try rfl
 rw [cQ c1,cS (by omega),aX]
 rw [call_eq (Z12.ak ⟨hs.2.2.1,by omega,by omega⟩)]
 unfold Z12.md
 by_cases c2:(a1 - ((eC (fun y:aa=>aa.size y) a0.aQ:Nat):Int) - ((ah.size a0.aS:Nat):Int))<((aL.size a0.dy:Nat):Int)
 ·rw [bZ c2];rw [show gY (aq.size a0) a1=-1 from bZ (by unfold aq.size;omega)];try rfl
 rw [cQ c2,cS (by omega),aX]
 rw [call_eq (Z13.ak ⟨hs.2.2.2,by omega,by omega⟩)]
 unfold Z13.md
 by_cases c3:(a1 - ((eC (fun y:aa=>aa.size y) a0.aQ:Nat):Int) - ((ah.size a0.aS:Nat):Int) - ((aL.size a0.dy:Nat):Int))<((bL.size a0.dA:Nat):Int)
 ·rw [bZ c3];rw [show gY (aq.size a0) a1=-1 from bZ (by unfold aq.size;omega)];try rfl
 rw [cQ c3,cS (by omega),aX]
 rw [show gY (aq.size a0) a1=a1 - ((eC (fun y:aa=>aa.size y) a0.aQ:Nat):Int) - ((ah.size a0.aS:Nat):Int) - ((aL.size a0.dy:Nat):Int) - ((bL.size a0.dA:Nat):Int) from by rw [cQ (by unfold aq.size;omega)];unfold aq.size;omega]
def af:cz 161 aT:=W2 30 F mix aC aY (kE Z5.af Z11.af Z12.af Z13.af) Tryz.func161
end Z14
namespace Z15
def F (x0:bP)(x1:Int):aI:=(cond ((i64.wrap (x1 - x0.aV.size))<0) bV (call (Z14.R (x0.bk,(i64.wrap (x1 - x0.aV.size)))) fun v1=>(cond (v1<0) bV (ret v1))))
def md (a0:av)(a1:Int):Int:=gY (av.size a0) a1
def gd (a0:av)(a1:Int):Prop:=(av.Sm maxLen a0)/\0<=a1/\a1<=1048576
def R:=cm gd md
def ak {a0 a1}(h:gd a0 a1):R ((av.r a0),a1)=some (md a0 a1):=cq h
def aT:=CN [.agg Ct,pI] oI RT.dec R
def aY (a0)(a1)(hg:gd a0 a1):F (av.r a0) a1=ret (md a0 a1):=by
 obtain ⟨hs,g0,g1⟩:=hg
 unfold md
 show (bif (decide ((i64.wrap (a1 - (a0.aV.size:Int)))<0)) then ret ((-1):Int) else (call (Z14.R ((aq.r a0.bk),(i64.wrap (a1 - (a0.aV.size:Int))))) fun v1=>(cond (v1<0) bV (ret (v1:Int)))))=_
 rw [nA (left:=a1) (by omega) (by omega) hs.1]
 by_cases c0:a1 - ((a0.aV.size:Nat):Int)<0
 ·rw [decide_eq_true c0,aZ];rw [show gY (av.size a0) a1=-1 from bZ (by unfold av.size;omega)];try rfl
 rw [decide_eq_false c0,aX]
 rw [call_eq (Z14.ak ⟨hs.2,by omega,by omega⟩)]
 unfold Z14.md
 by_cases c1:(a1 - ((a0.aV.size:Nat):Int))<((aq.size a0.bk:Nat):Int)
 ·rw [bZ c1];rw [show gY (av.size a0) a1=-1 from bZ (by unfold av.size;omega)];try rfl
 rw [cQ c1,cS (by omega),aX]
 rw [show gY (av.size a0) a1=a1 - ((a0.aV.size:Nat):Int) - ((aq.size a0.bk:Nat):Int) from by rw [cQ (by unfold av.size;omega)];unfold av.size;omega]
def af:cz 110 aT:=W2 19 F mix aC aY (cD Z14.af) Tryz.func110
end Z15
namespace Z16
inductive Pt where
 | p0 (a:aB) (b c:Int)
def cu:Pt->List V
 | .p0 a b c=>[.sl none 171 a,.int .i64 b,.int .i64 c]
def step (J:Pt->aI):Pt->aI
 | .p0 a b c=>(cond (c<(a.length:Int)) (m2 c (a.length:Int) (call (Z15.R ((bP.at a (toNat c)),b)) fun v1=>(cond (v1<0) bV (J (.p0 a v1 (i64.wrap (c+1))))))) (ret (b:Int)))
def start (J:Pt->aI)(x0:aB)(x1:Int):aI:=(cond ((i64.wrap (x1 - x0.length))<0) bV (J (.p0 x0 (i64.wrap (x1 - x0.length)) 0)))
def live:Nat->Live:=fK [(5,gj [0,1,5])]
def md (a0:List av)(a1:Int):Int:=gY (eC (fun y:av=>av.size y) a0) a1
def gd (a0:List av)(a1:Int):Prop:=(bN maxLen (fun y:av=>av.Sm maxLen y) a0)/\0<=a1/\a1<=1048576
def R:=cm gd md
def ak {a0 a1}(h:gd a0 a1):R ((a0.map av.row),a1)=some (md a0 a1):=cq h
def aT:=CN [pL 171,pI] oI RT.dec R
def aY (a0)(a1)(hg:gd a0 a1):∃n,start (iter step n) (a0.map av.row) a1=ret (md a0 a1):=by
 obtain ⟨hs,g0,g1⟩:=hg
 unfold start md
 simp only [List.length_map]
 refine kN (pt:=fun left i=>Pt.p0 (a0.map av.row) left (i:Int)) (f:=fun y:av=>av.size y) hs.1 (fun J i h left p0 p1=>?_) (fun J left=>?_) g0 g1
 ·simp only [step,MM,List.length_map,aK h,aD,aZ,cM,av.eT h]
  rw [call_eq (Z15.ak ⟨hs.get h,p0,p1⟩),aH h hs.1]
  unfold Z15.md
  by_cases hc:left<((av.size (a0[i]):Nat):Int)
  ·rw [bZ hc,if_pos hc];rfl
  ·rw [cQ hc,if_neg hc,cS (by omega)];rfl
 ·simp only [step,List.length_map,eM,aX]
def af:cz 48 aT:=L2 27 (fun _=>5) cu (fun _=>[]) live step start mix aC aY (cD Z15.af) Tryz.func48
end Z16
namespace Z17
def F (x0:cH)(x1:Int):aI:=(call (Z16.R (x0.aO,x1)) fun v1=>(cond (v1<0) bV (ret v1)))
def md (a0:aJ)(a1:Int):Int:=gY (aJ.size a0) a1
def gd (a0:aJ)(a1:Int):Prop:=(aJ.Sm maxLen a0)/\0<=a1/\a1<=1048576
def R:=cm gd md
def ak {a0 a1}(h:gd a0 a1):R ((aJ.r a0),a1)=some (md a0 a1):=cq h
def aT:=CN [.agg De,pI] oI RT.dec R
def aY (a0)(a1)(hg:gd a0 a1):F (aJ.r a0) a1=ret (md a0 a1):=by
 obtain ⟨hs,g0,g1⟩:=hg
 unfold md
 show (call (Z16.R ((a0.aO.map av.row),a1)) fun v1=>(cond (v1<0) bV (ret (v1:Int))))=_
 rw [call_eq (Z16.ak ⟨hs,by omega,by omega⟩)]
 unfold Z16.md
 by_cases c0:a1<((eC (fun y:av=>av.size y) a0.aO:Nat):Int)
 ·rw [bZ c0];rw [show gY (aJ.size a0) a1=-1 from bZ (by unfold aJ.size;omega)];try rfl
 rw [cQ c0,cS (by omega),aX]
 rw [show gY (aJ.size a0) a1=a1 - ((eC (fun y:av=>av.size y) a0.aO:Nat):Int) from by rw [cQ (by unfold aJ.size;omega)];unfold aJ.size;omega]
def af:cz 9 aT:=W2 12 F mix aC aY (cD Z16.af) Tryz.func9
end Z17
namespace Z18
inductive Pt where
 | p0 (a:aB) (b c:Int)
def cu:Pt->List V
 | .p0 a b c=>[.sl none 164 a,.int .i64 b,.int .i64 c]
def step (J:Pt->aI):Pt->aI
 | .p0 a b c=>(cond (c<(a.length:Int)) (m2 c (a.length:Int) (call (Z11.R ((bK.at a (toNat c)),b)) fun v1=>(cond (v1<0) bV (J (.p0 a v1 (i64.wrap (c+1))))))) (ret (b:Int)))
def start (J:Pt->aI)(x0:aB)(x1:Int):aI:=(cond ((i64.wrap (x1 - x0.length))<0) bV (J (.p0 x0 (i64.wrap (x1 - x0.length)) 0)))
def live:Nat->Live:=fK [(5,gj [0,1,5])]
def md (a0:List ah)(a1:Int):Int:=gY (eC (fun y:ah=>ah.size y) a0) a1
def gd (a0:List ah)(a1:Int):Prop:=(bN maxLen (fun y:ah=>ah.Sm maxLen y) a0)/\0<=a1/\a1<=1048576
def R:=cm gd md
def ak {a0 a1}(h:gd a0 a1):R ((a0.map ah.row),a1)=some (md a0 a1):=cq h
def aT:=CN [pL 164,pI] oI RT.dec R
def aY (a0)(a1)(hg:gd a0 a1):∃n,start (iter step n) (a0.map ah.row) a1=ret (md a0 a1):=by
 obtain ⟨hs,g0,g1⟩:=hg
 unfold start md
 simp only [List.length_map]
 refine kN (pt:=fun left i=>Pt.p0 (a0.map ah.row) left (i:Int)) (f:=fun y:ah=>ah.size y) hs.1 (fun J i h left p0 p1=>?_) (fun J left=>?_) g0 g1
 ·simp only [step,MM,List.length_map,aK h,aD,aZ,cM,ah.eT h]
  rw [call_eq (Z11.ak ⟨hs.get h,p0,p1⟩),aH h hs.1]
  unfold Z11.md
  by_cases hc:left<((ah.size (a0[i]):Nat):Int)
  ·rw [bZ hc,if_pos hc];rfl
  ·rw [cQ hc,if_neg hc,cS (by omega)];rfl
 ·simp only [step,List.length_map,eM,aX]
def af:cz 228 aT:=L2 27 (fun _=>5) cu (fun _=>[]) live step start mix aC aY (cD Z11.af) Tryz.func228
end Z18
namespace Z19
def F (x0:eE)(x1:Int):aI:=(call (Z5.R (x0.aQ,x1)) fun v1=>(cond (v1<0) bV (call (Z18.R (x0.bR,v1)) fun v2=>(cond (v2<0) bV (ret v2)))))
def md (a0:aP)(a1:Int):Int:=gY (aP.size a0) a1
def gd (a0:aP)(a1:Int):Prop:=(aP.Sm maxLen a0)/\0<=a1/\a1<=1048576
def R:=cm gd md
def ak {a0 a1}(h:gd a0 a1):R ((aP.r a0),a1)=some (md a0 a1):=cq h
def aT:=CN [.agg Co,pI] oI RT.dec R
def aY (a0)(a1)(hg:gd a0 a1):F (aP.r a0) a1=ret (md a0 a1):=by
 obtain ⟨hs,g0,g1⟩:=hg
 unfold md
 show (call (Z5.R ((a0.aQ.map aa.row),a1)) fun v1=>(bif (decide (v1<0)) then ret ((-1):Int) else (call (Z18.R ((a0.bR.map ah.row),v1)) fun v2=>(cond (v2<0) bV (ret (v2:Int))))))=_
 rw [call_eq (Z5.ak ⟨hs.1,by omega,by omega⟩)]
 unfold Z5.md
 by_cases c0:a1<((eC (fun y:aa=>aa.size y) a0.aQ:Nat):Int)
 ·rw [bZ c0];rw [show gY (aP.size a0) a1=-1 from bZ (by unfold aP.size;omega)];try rfl
 rw [cQ c0,cS (by omega),aX]
 rw [call_eq (Z18.ak ⟨hs.2,by omega,by omega⟩)]
 unfold Z18.md
 by_cases c1:(a1 - ((eC (fun y:aa=>aa.size y) a0.aQ:Nat):Int))<((eC (fun y:ah=>ah.size y) a0.bR:Nat):Int)
 ·rw [bZ c1];rw [show gY (aP.size a0) a1=-1 from bZ (by unfold aP.size;omega)];try rfl
 rw [cQ c1,cS (by omega),aX]
 rw [show gY (aP.size a0) a1=a1 - ((eC (fun y:aa=>aa.size y) a0.aQ:Nat):Int) - ((eC (fun y:ah=>ah.size y) a0.bR:Nat):Int) from by rw [cQ (by unfold aP.size;omega)];unfold aP.size;omega]
def af:cz 172 aT:=W2 18 F mix aC aY (eP Z5.af Z18.af) Tryz.func172
end Z19
namespace Z20
inductive Pt where
 | p0 (a:aB) (b c:Int)
def cu:Pt->List V
 | .p0 a b c=>[.sl none 233 a,.int .i64 b,.int .i64 c]
def step (J:Pt->aI):Pt->aI
 | .p0 a b c=>(cond (c<(a.length:Int)) (m2 c (a.length:Int) (call (Z19.R ((eE.at a (toNat c)),b)) fun v1=>(cond (v1<0) bV (J (.p0 a v1 (i64.wrap (c+1))))))) (ret (b:Int)))
def start (J:Pt->aI)(x0:aB)(x1:Int):aI:=(cond ((i64.wrap (x1 - x0.length))<0) bV (J (.p0 x0 (i64.wrap (x1 - x0.length)) 0)))
def live:Nat->Live:=fK [(5,gj [0,1,5])]
def md (a0:List aP)(a1:Int):Int:=gY (eC (fun y:aP=>aP.size y) a0) a1
def gd (a0:List aP)(a1:Int):Prop:=(bN maxLen (fun y:aP=>aP.Sm maxLen y) a0)/\0<=a1/\a1<=1048576
def R:=cm gd md
def ak {a0 a1}(h:gd a0 a1):R ((a0.map aP.row),a1)=some (md a0 a1):=cq h
def aT:=CN [pL 233,pI] oI RT.dec R
def aY (a0)(a1)(hg:gd a0 a1):∃n,start (iter step n) (a0.map aP.row) a1=ret (md a0 a1):=by
 obtain ⟨hs,g0,g1⟩:=hg
 unfold start md
 simp only [List.length_map]
 refine kN (pt:=fun left i=>Pt.p0 (a0.map aP.row) left (i:Int)) (f:=fun y:aP=>aP.size y) hs.1 (fun J i h left p0 p1=>?_) (fun J left=>?_) g0 g1
 ·simp only [step,MM,List.length_map,aK h,aD,aZ,cM,aP.eT h]
  rw [call_eq (Z19.ak ⟨hs.get h,p0,p1⟩),aH h hs.1]
  unfold Z19.md
  by_cases hc:left<((aP.size (a0[i]):Nat):Int)
  ·rw [bZ hc,if_pos hc];rfl
  ·rw [cQ hc,if_neg hc,cS (by omega)];rfl
 ·simp only [step,List.length_map,eM,aX]
def af:cz 131 aT:=L2 27 (fun _=>5) cu (fun _=>[]) live step start mix aC aY (cD Z19.af) Tryz.func131
end Z20
namespace Z21
def F (x0:cZ)(x1:Int):aI:=(call (Z20.R (x0.bM,x1)) fun v1=>(cond (v1<0) bV (ret v1)))
def md (a0:ay)(a1:Int):Int:=gY (ay.size a0) a1
def gd (a0:ay)(a1:Int):Prop:=(ay.Sm maxLen a0)/\0<=a1/\a1<=1048576
def R:=cm gd md
def ak {a0 a1}(h:gd a0 a1):R ((ay.r a0),a1)=some (md a0 a1):=cq h
def aT:=CN [.agg B6,pI] oI RT.dec R
def aY (a0)(a1)(hg:gd a0 a1):F (ay.r a0) a1=ret (md a0 a1):=by
 obtain ⟨hs,g0,g1⟩:=hg
 unfold md
 show (call (Z20.R ((a0.bM.map aP.row),a1)) fun v1=>(cond (v1<0) bV (ret (v1:Int))))=_
 rw [call_eq (Z20.ak ⟨hs,by omega,by omega⟩)]
 unfold Z20.md
 by_cases c0:a1<((eC (fun y:aP=>aP.size y) a0.bM:Nat):Int)
 ·rw [bZ c0];rw [show gY (ay.size a0) a1=-1 from bZ (by unfold ay.size;omega)];try rfl
 rw [cQ c0,cS (by omega),aX]
 rw [show gY (ay.size a0) a1=a1 - ((eC (fun y:aP=>aP.size y) a0.bM:Nat):Int) from by rw [cQ (by unfold ay.size;omega)];unfold ay.size;omega]
def af:cz 82 aT:=W2 12 F mix aC aY (cD Z20.af) Tryz.func82
end Z21
namespace Z22
inductive Pt where
 | p0 (a:aB) (b c:Int)
def cu:Pt->List V
 | .p0 a b c=>[.sl none 115 a,.int .i64 b,.int .i64 c]
def step (J:Pt->aI):Pt->aI
 | .p0 a b c=>(cond (c<(a.length:Int)) (m2 c (a.length:Int) (call (Z21.R ((cZ.at a (toNat c)),b)) fun v1=>(cond (v1<0) bV (J (.p0 a v1 (i64.wrap (c+1))))))) (ret (b:Int)))
def start (J:Pt->aI)(x0:aB)(x1:Int):aI:=(cond ((i64.wrap (x1 - x0.length))<0) bV (J (.p0 x0 (i64.wrap (x1 - x0.length)) 0)))
def live:Nat->Live:=fK [(5,gj [0,1,5])]
def md (a0:List ay)(a1:Int):Int:=gY (eC (fun y:ay=>ay.size y) a0) a1
def gd (a0:List ay)(a1:Int):Prop:=(bN maxLen (fun y:ay=>ay.Sm maxLen y) a0)/\0<=a1/\a1<=1048576
def R:=cm gd md
def ak {a0 a1}(h:gd a0 a1):R ((a0.map ay.row),a1)=some (md a0 a1):=cq h
def aT:=CN [pL 115,pI] oI RT.dec R
def aY (a0)(a1)(hg:gd a0 a1):∃n,start (iter step n) (a0.map ay.row) a1=ret (md a0 a1):=by
 obtain ⟨hs,g0,g1⟩:=hg
 unfold start md
 simp only [List.length_map]
 refine kN (pt:=fun left i=>Pt.p0 (a0.map ay.row) left (i:Int)) (f:=fun y:ay=>ay.size y) hs.1 (fun J i h left p0 p1=>?_) (fun J left=>?_) g0 g1
 ·simp only [step,MM,List.length_map,aK h,aD,aZ,cM,ay.eT h]
  rw [call_eq (Z21.ak ⟨hs.get h,p0,p1⟩),aH h hs.1]
  unfold Z21.md
  by_cases hc:left<((ay.size (a0[i]):Nat):Int)
  ·rw [bZ hc,if_pos hc];rfl
  ·rw [cQ hc,if_neg hc,cS (by omega)];rfl
 ·simp only [step,List.length_map,eM,aX]
def af:cz 32 aT:=L2 27 (fun _=>5) cu (fun _=>[]) live step start mix aC aY (cD Z21.af) Tryz.func32
end Z22
namespace Z23
inductive Pt where
 | p0 (a:aB) (b:Int) (c:aB)
def cu:Pt->List V
 | .p0 a b c=>[.sl none 3 a,.own 0,.int .i64 b]
def cR:Pt->List aW
 | .p0 a b c=>[.row 3 c]
def step (J:Pt->aI):Pt->aI
 | .p0 a b c=>(cond (b<(a.length:Int)) (m2 b (a.length:Int) (m2 b (c.length:Int) (J (.p0 a (i64.wrap (b+1)) (List.set c (toNat b) [L.int (kr a (toNat b))]))))) (ret (c:aB)))
def start (J:Pt->aI)(x0:aB):aI:=(bY ((0:Int)<=x0.length) (bY (x0.length<=(x0.length:Int)) (bY ((x0.length:Int)*8<=140737488355328) (J (.p0 x0 0 (List.replicate (toNat x0.length) [L.int 0]))))))
def live:Nat->Live:=fK [(3,gj [0,3,4])]
def md (a0:List Int):List Int:=a0
def gd (a0:List Int):Prop:=bN (2^36) (fun y:Int=>True) a0
def R:=RR gd md
def ak {a0}(h:gd a0):R (a0.map bt)=some (a0.map bt):=cV h
def aT:=CN [pL 3] (oL 3) RT.dec R
def aY (a0)(hg:gd a0):∃n,start (iter step n) (a0.map bt)=ret ((md a0).map bt):=by
 unfold start md
 simp only [List.length_map]
 refine jl (b:=8) (pt:=fun i c=>Pt.p0 (a0.map bt) (i:Int) c) (by have:=hg.1;simp at this;omega) (fun J i h c hc=>?_) (fun J c=>?_)
 ·simp only [step,MM,List.length_map,aK h,aD,aZ,cM,vf h,hc]
  rw [aH (n:=a0.length) h (by have:=hg.1;simp only [maxLen];simp at this;omega)]
  rfl
 ·simp only [step,List.length_map,eM,aX]
def af:cz 278 aT:=L1 22 (fun _=>3) cu cR live step start mix aC aY .nil Tryz.func278
end Z23
namespace Z24
def F (x0:dz):aI:=(call (Z23.R x0.aO) fun v1=>ret ((⟨v1,x0.cO⟩):dz))
def md (a0:aR):aR:=a0
def gd (a0:aR):Prop:=aR.Sm (2^36) a0
def R:=RR gd md
def ak {a0}(h:gd a0):R (aR.r a0)=some (aR.r a0):=cV h
def aT:=CN [.agg BU] (.agg f173) RT.dec R
def aY (a0)(hg:gd a0):F (aR.r a0)=ret (aR.r (md a0)):=by
 show (call (Z23.R (a0.aO.map bt)) fun v1=>ret ((⟨v1,a0.cO⟩:dz):dz))=_
 rw [call_eq (Z23.ak hg)]
 rfl
def af:cz 276 aT:=W1 12 F mix aC aY (cD Z23.af) Tryz.func276
end Z24
namespace Z25
def F (x0:dI):aI:=(call (Z24.R x0.bU) fun v1=>(call (Z24.R x0.bF) fun v2=>(call (Z24.R x0.bC) fun v3=>ret ((⟨x0.bz,x0.cU,x0.bJ,x0.cT,x0.cL,x0.cE,x0.dG,x0.dY,v1,v2,x0.dM,v3,x0.bD⟩):dI))))
def md (a0:aF):aF:=a0
def gd (a0:aF):Prop:=aF.Sm (2^36) a0
def R:=RR gd md
def ak {a0}(h:gd a0):R (aF.r a0)=some (aF.r a0):=cV h
def aT:=CN [.agg Cn] (.agg f175) RT.dec R
def aY (a0)(hg:gd a0):F (aF.r a0)=ret (aF.r (md a0)):=by
 show (call (Z24.R (aR.r a0.bU)) fun v1=>(call (Z24.R (aR.r a0.bF)) fun v2=>(call (Z24.R (aR.r a0.bC)) fun v3=>ret ((⟨a0.bz,a0.cU,a0.bJ,a0.cT,a0.cL,a0.cE,a0.dG,a0.dY,v1,v2,a0.dM,v3,a0.bD⟩:dI):dI))))=_
 rw [call_eq (Z24.ak hg.1)]
 rw [call_eq (Z24.ak hg.2.1)]
 rw [call_eq (Z24.ak hg.2.2)]
 rfl
def af:cz 215 aT:=W1 47 F mix aC aY (cD Z24.af) Tryz.func215
end Z25
namespace Z26
def F (x0:bn):aI:=ret x0
def md (a0:bn):bn:=a0
def gd (a0:bn):Prop:=bn.Sm (2^36) a0
def R:=RR gd md
def ak {a0}(h:gd a0):R a0=some a0:=cV h
def aT:=CN [.agg CF] (.agg f227) RT.dec R
def aY (a0)(hg:gd a0):F a0=ret (md a0):=by
 rfl
def af:cz 277 aT:=W1 11 F mix aC aY .nil Tryz.func277
end Z26
namespace Z27
inductive Pt where
 | p0 (a:aB) (b:Int) (c:aB)
def cu:Pt->List V
 | .p0 a b c=>[.sl none 315 a,.own 0,.int .i64 b]
def cR:Pt->List aW
 | .p0 a b c=>[.row 227 c]
def step (J:Pt->aI):Pt->aI
 | .p0 a b c=>(cond (b<(a.length:Int)) (m2 b (a.length:Int) (call (Z26.R (bn.at a (toNat b))) fun v1=>(m2 b (c.length:Int) (J (.p0 a (i64.wrap (b+1)) (List.set c (toNat b) (bn.enc v1))))))) (ret (c:aB)))
def start (J:Pt->aI)(x0:aB):aI:=(bY ((0:Int)<=x0.length) (bY (x0.length<=(x0.length:Int)) (bY ((x0.length:Int)*16<=140737488355328) (J (.p0 x0 0 (List.replicate (toNat x0.length) [L.int 0,L.int 0]))))))
def live:Nat->Live:=fK [(3,gj [0,3,4])]
def md (a0:List bn):List bn:=a0
def gd (a0:List bn):Prop:=bN (2^36) (fun y:bn=>bn.Sm (2^36) y) a0
def R:=RR gd md
def ak {a0}(h:gd a0):R (a0.map bn.row)=some (a0.map bn.row):=cV h
def aT:=CN [pL 315] (oL 227) RT.dec R
def aY (a0)(hg:gd a0):∃n,start (iter step n) (a0.map bn.row)=ret ((md a0).map bn.row):=by
 unfold start md
 simp only [List.length_map]
 refine jl (b:=16) (pt:=fun i c=>Pt.p0 (a0.map bn.row) (i:Int) c) (by have:=hg.1;simp at this;omega) (fun J i h c hc=>?_) (fun J c=>?_)
 ·simp only [step,MM,List.length_map,aK h,aD,aZ,cM,bn.eT h,hc]
  rw [call_eq (Z26.ak (hg.get h))]
  rw [aH (n:=a0.length) h (by have:=hg.1;simp only [maxLen];simp at this;omega)]
  rfl
 ·simp only [step,List.length_map,eM,aX]
def af:cz 216 aT:=L1 23 (fun _=>3) cu cR live step start mix aC aY (cD Z26.af) Tryz.func216
end Z27
namespace Z28
def F (x0:bf):aI:=(call (Z25.R x0.an) fun v1=>(call (Z27.R x0.cP) fun v2=>ret ((⟨v1,v2⟩):bf)))
def md (a0:aa):aa:=a0
def gd (a0:aa):Prop:=aa.Sm (2^36) a0
def R:=RR gd md
def ak {a0}(h:gd a0):R (aa.r a0)=some (aa.r a0):=cV h
def aT:=CN [.agg BO] (.agg f178) RT.dec R
def aY (a0)(hg:gd a0):F (aa.r a0)=ret (aa.r (md a0)):=by
 show (call (Z25.R (aF.r a0.an)) fun v1=>(call (Z27.R (a0.cP.map bn.row)) fun v2=>ret ((⟨v1,v2⟩:bf):bf)))=_
 rw [call_eq (Z25.ak hg.1)]
 rw [call_eq (Z27.ak hg.2)]
 rfl
def af:cz 162 aT:=W1 13 F mix aC aY (eP Z25.af Z27.af) Tryz.func162
end Z28
namespace Z29
inductive Pt where
 | p0 (a:aB) (b:Int) (c:aB)
def cu:Pt->List V
 | .p0 a b c=>[.sl none 160 a,.own 0,.int .i64 b]
def cR:Pt->List aW
 | .p0 a b c=>[.row 178 c]
def step (J:Pt->aI):Pt->aI
 | .p0 a b c=>(cond (b<(a.length:Int)) (m2 b (a.length:Int) (call (Z28.R (bf.at a (toNat b))) fun v1=>(m2 b (c.length:Int) (J (.p0 a (i64.wrap (b+1)) (List.set c (toNat b) (bf.enc v1))))))) (ret (c:aB)))
def start (J:Pt->aI)(x0:aB):aI:=(bY ((0:Int)<=x0.length) (bY (x0.length<=(x0.length:Int)) (bY ((x0.length:Int)*200<=140737488355328) (J (.p0 x0 0 (List.replicate (toNat x0.length) [L.int 0,L.int 0,L.int 0,L.int 0,L.int 0,L.int 0,L.int 0,L.int 0,L.sl [],L.int 0,L.sl [],L.int 0,L.int 0,L.sl [],L.int 0,L.bool false,L.sl []]))))))
def live:Nat->Live:=fK [(3,gj [0,3,4])]
def md (a0:List aa):List aa:=a0
def gd (a0:List aa):Prop:=bN (2^36) (fun y:aa=>aa.Sm (2^36) y) a0
def R:=RR gd md
def ak {a0}(h:gd a0):R (a0.map aa.row)=some (a0.map aa.row):=cV h
def aT:=CN [pL 160] (oL 178) RT.dec R
def aY (a0)(hg:gd a0):∃n,start (iter step n) (a0.map aa.row)=ret ((md a0).map aa.row):=by
 unfold start md
 simp only [List.length_map]
 refine jl (b:=200) (pt:=fun i c=>Pt.p0 (a0.map aa.row) (i:Int) c) (by have:=hg.1;simp at this;omega) (fun J i h c hc=>?_) (fun J c=>?_)
 ·simp only [step,MM,List.length_map,aK h,aD,aZ,cM,aa.eT h,hc]
  rw [call_eq (Z28.ak (hg.get h))]
  rw [aH (n:=a0.length) h (by have:=hg.1;simp only [maxLen];simp at this;omega)]
  rfl
 ·simp only [step,List.length_map,eM,aX]
def af:cz 111 aT:=L1 23 (fun _=>3) cu cR live step start mix aC aY (cD Z28.af) Tryz.func111
end Z29
namespace Z30
inductive Pt where
 | p0 (a:aB) (b:Int) (c:aB)
def cu:Pt->List V
 | .p0 a b c=>[.sl none 152 a,.own 0,.int .i64 b]
def cR:Pt->List aW
 | .p0 a b c=>[.row 120 c]
def step (J:Pt->aI):Pt->aI
 | .p0 a b c=>(cond (b<(a.length:Int)) (m2 b (a.length:Int) (call (Z29.R (qi a (toNat b))) fun v1=>(m2 b (c.length:Int) (J (.p0 a (i64.wrap (b+1)) (List.set c (toNat b) [L.sl v1])))))) (ret (c:aB)))
def start (J:Pt->aI)(x0:aB):aI:=(bY ((0:Int)<=x0.length) (bY (x0.length<=(x0.length:Int)) (bY ((x0.length:Int)*24<=140737488355328) (J (.p0 x0 0 (List.replicate (toNat x0.length) [L.sl []]))))))
def live:Nat->Live:=fK [(3,gj [0,3,4])]
def md (a0:List (List aa)):List (List aa):=a0
def gd (a0:List (List aa)):Prop:=bN (2^36) (fun y:List aa=>bN (2^36) (fun y:aa=>aa.Sm (2^36) y) y) a0
def R:=RR gd md
def ak {a0}(h:gd a0):R (a0.map (eK aa.row))=some (a0.map (eK aa.row)):=cV h
def aT:=CN [pL 152] (oL 120) RT.dec R
def aY (a0)(hg:gd a0):∃n,start (iter step n) (a0.map (eK aa.row))=ret ((md a0).map (eK aa.row)):=by
 unfold start md
 simp only [List.length_map]
 refine jl (b:=24) (pt:=fun i c=>Pt.p0 (a0.map (eK aa.row)) (i:Int) c) (by have:=hg.1;simp at this;omega) (fun J i h c hc=>?_) (fun J c=>?_)
 ·simp only [step,MM,List.length_map,aK h,aD,aZ,cM,ru h,hc]
  rw [call_eq (Z29.ak (hg.get h))]
  rw [aH (n:=a0.length) h (by have:=hg.1;simp only [maxLen];simp at this;omega)]
  rfl
 ·simp only [step,List.length_map,eM,aX]
def af:cz 49 aT:=L1 23 (fun _=>3) cu cR live step start mix aC aY (cD Z29.af) Tryz.func49
end Z30
namespace Z31
def F (x0:bO):aI:=(call (Z28.R x0.aN) fun v1=>(call (Z28.R x0.fA) fun v2=>(call (Z28.R x0.fB) fun v3=>ret ((⟨v1,v2,v3⟩):bO))))
def md (a0:aG):aG:=a0
def gd (a0:aG):Prop:=aG.Sm (2^36) a0
def R:=RR gd md
def ak {a0}(h:gd a0):R (aG.r a0)=some (aG.r a0):=cV h
def aT:=CN [.agg Cv] (.agg f180) RT.dec R
def aY (a0)(hg:gd a0):F (aG.r a0)=ret (aG.r (md a0)):=by
 show (call (Z28.R (aa.r a0.aN)) fun v1=>(call (Z28.R (aa.r a0.fA)) fun v2=>(call (Z28.R (aa.r a0.fB)) fun v3=>ret ((⟨v1,v2,v3⟩:bO):bO))))=_
 rw [call_eq (Z28.ak hg.1)]
 rw [call_eq (Z28.ak hg.2.1)]
 rw [call_eq (Z28.ak hg.2.2)]
 rfl
def af:cz 112 aT:=W1 17 F mix aC aY (cD Z28.af) Tryz.func112
end Z31
namespace Z32
inductive Pt where
 | p0 (a:aB) (b:Int) (c:aB)
def cu:Pt->List V
 | .p0 a b c=>[.sl none 162 a,.own 0,.int .i64 b]
def cR:Pt->List aW
 | .p0 a b c=>[.row 180 c]
def step (J:Pt->aI):Pt->aI
 | .p0 a b c=>(cond (b<(a.length:Int)) (m2 b (a.length:Int) (call (Z31.R (bO.at a (toNat b))) fun v1=>(m2 b (c.length:Int) (J (.p0 a (i64.wrap (b+1)) (List.set c (toNat b) (bO.enc v1))))))) (ret (c:aB)))
def start (J:Pt->aI)(x0:aB):aI:=(bY ((0:Int)<=x0.length) (bY (x0.length<=(x0.length:Int)) (bY ((x0.length:Int)*600<=140737488355328) (J (.p0 x0 0 (List.replicate (toNat x0.length) [L.int 0,L.int 0,L.int 0,L.int 0,L.int 0,L.int 0,L.int 0,L.int 0,L.sl [],L.int 0,L.sl [],L.int 0,L.int 0,L.sl [],L.int 0,L.bool false,L.sl [],L.int 0,L.int 0,L.int 0,L.int 0,L.int 0,L.int 0,L.int 0,L.int 0,L.sl [],L.int 0,L.sl [],L.int 0,L.int 0,L.sl [],L.int 0,L.bool false,L.sl [],L.int 0,L.int 0,L.int 0,L.int 0,L.int 0,L.int 0,L.int 0,L.int 0,L.sl [],L.int 0,L.sl [],L.int 0,L.int 0,L.sl [],L.int 0,L.bool false,L.sl []]))))))
def live:Nat->Live:=fK [(3,gj [0,3,4])]
def md (a0:List aG):List aG:=a0
def gd (a0:List aG):Prop:=bN (2^36) (fun y:aG=>aG.Sm (2^36) y) a0
def R:=RR gd md
def ak {a0}(h:gd a0):R (a0.map aG.row)=some (a0.map aG.row):=cV h
def aT:=CN [pL 162] (oL 180) RT.dec R
def aY (a0)(hg:gd a0):∃n,start (iter step n) (a0.map aG.row)=ret ((md a0).map aG.row):=by
 unfold start md
 simp only [List.length_map]
 refine jl (b:=600) (pt:=fun i c=>Pt.p0 (a0.map aG.row) (i:Int) c) (by have:=hg.1;simp at this;omega) (fun J i h c hc=>?_) (fun J c=>?_)
 ·simp only [step,MM,List.length_map,aK h,aD,aZ,cM,aG.eT h,hc]
  rw [call_eq (Z31.ak (hg.get h))]
  rw [aH (n:=a0.length) h (by have:=hg.1;simp only [maxLen];simp at this;omega)]
  rfl
 ·simp only [step,List.length_map,eM,aX]
def af:cz 50 aT:=L1 23 (fun _=>3) cu cR live step start mix aC aY (cD Z31.af) Tryz.func50
end Z32
namespace Z33
def F (x0:bA):aI:=(call (Z30.R x0.aM) fun v1=>(call (Z32.R x0.bu) fun v2=>ret ((⟨v1,v2⟩):bA)))
def md (a0:aA):aA:=a0
def gd (a0:aA):Prop:=aA.Sm (2^36) a0
def R:=RR gd md
def ak {a0}(h:gd a0):R (aA.r a0)=some (aA.r a0):=cV h
def aT:=CN [.agg Dn] (.agg f36) RT.dec R
def aY (a0)(hg:gd a0):F (aA.r a0)=ret (aA.r (md a0)):=by
 show (call (Z30.R (a0.aM.map (eK aa.row))) fun v1=>(call (Z32.R (a0.bu.map aG.row)) fun v2=>ret ((⟨v1,v2⟩:bA):bA)))=_
 rw [call_eq (Z30.ak hg.1)]
 rw [call_eq (Z32.ak hg.2)]
 rfl
def af:cz 12 aT:=W1 13 F mix aC aY (eP Z30.af Z32.af) Tryz.func12
end Z33
namespace Z34
inductive Pt where
 | p0 (a:aB) (b:Int) (c:aB)
def cu:Pt->List V
 | .p0 a b c=>[.sl none 9 a,.own 0,.int .i64 b]
def cR:Pt->List aW
 | .p0 a b c=>[.row 9 c]
def step (J:Pt->aI):Pt->aI
 | .p0 a b c=>(cond (b<(a.length:Int)) (m2 b (a.length:Int) (m2 b (c.length:Int) (J (.p0 a (i64.wrap (b+1)) (List.set c (toNat b) [L.str (qS a (toNat b))]))))) (ret (c:aB)))
def start (J:Pt->aI)(x0:aB):aI:=(bY ((0:Int)<=x0.length) (bY (x0.length<=(x0.length:Int)) (bY ((x0.length:Int)*16<=140737488355328) (J (.p0 x0 0 (List.replicate (toNat x0.length) [L.str ⟨#[]⟩]))))))
def live:Nat->Live:=fK [(3,gj [0,3,4])]
def md (a0:List aE):List aE:=a0
def gd (a0:List aE):Prop:=bN (2^36) (fun y:aE=>y.size<=(2^36)) a0
def R:=RR gd md
def ak {a0}(h:gd a0):R (a0.map cX)=some (a0.map cX):=cV h
def aT:=CN [pL 9] (oL 9) RT.dec R
def aY (a0)(hg:gd a0):∃n,start (iter step n) (a0.map cX)=ret ((md a0).map cX):=by
 unfold start md
 simp only [List.length_map]
 refine jl (b:=16) (pt:=fun i c=>Pt.p0 (a0.map cX) (i:Int) c) (by have:=hg.1;simp at this;omega) (fun J i h c hc=>?_) (fun J c=>?_)
 ·simp only [step,MM,List.length_map,aK h,aD,aZ,cM,rj h,hc]
  rw [aH (n:=a0.length) h (by have:=hg.1;simp only [maxLen];simp at this;omega)]
  rfl
 ·simp only [step,List.length_map,eM,aX]
def af:cz 14 aT:=L1 22 (fun _=>3) cu cR live step start mix aC aY .nil Tryz.func14
end Z34
namespace Z35
def F (x0:bK):aI:=(call (Z34.R x0.bh) fun v1=>ret ((⟨x0.aV,x0.bJ,x0.bX,v1⟩):bK))
def md (a0:ah):ah:=a0
def gd (a0:ah):Prop:=ah.Sm (2^36) a0
def R:=RR gd md
def ak {a0}(h:gd a0):R (ah.r a0)=some (ah.r a0):=cV h
def aT:=CN [.agg BR] (.agg f38) RT.dec R
def aY (a0)(hg:gd a0):F (ah.r a0)=ret (ah.r (md a0)):=by
 show (call (Z34.R (a0.bh.map cX)) fun v1=>ret ((⟨a0.aV,a0.bJ,a0.bX,v1⟩:bK):bK))=_
 rw [call_eq (Z34.ak hg.2)]
 rfl
def af:cz 217 aT:=W1 18 F mix aC aY (cD Z34.af) Tryz.func217
end Z35
namespace Z36
def F (x0:dX):aI:=(call (Z23.R x0.bh) fun v1=>ret ((⟨x0.eG,v1⟩):dX))
def md (a0:aL):aL:=a0
def gd (a0:aL):Prop:=aL.Sm (2^36) a0
def R:=RR gd md
def ak {a0}(h:gd a0):R (aL.r a0)=some (aL.r a0):=cV h
def aT:=CN [.agg B8] (.agg f122) RT.dec R
def aY (a0)(hg:gd a0):F (aL.r a0)=ret (aL.r (md a0)):=by
 show (call (Z23.R (a0.bh.map bt)) fun v1=>ret ((⟨a0.eG,v1⟩:dX):dX))=_
 rw [call_eq (Z23.ak hg)]
 rfl
def af:cz 218 aT:=W1 12 F mix aC aY (cD Z23.af) Tryz.func218
end Z36
namespace Z37
def F (x0:ff):aI:=(call (Z35.R x0.aN) fun v1=>(call (Z35.R x0.bT) fun v2=>(call (Z36.R x0.dN) fun v3=>(call (Z36.R x0.cA) fun v4=>ret ((⟨x0.eG,v1,v2,v3,v4⟩):ff)))))
def md (a0:bL):bL:=a0
def gd (a0:bL):Prop:=bL.Sm (2^36) a0
def R:=RR gd md
def ak {a0}(h:gd a0):R (bL.r a0)=some (bL.r a0):=cV h
def aT:=CN [.agg Cg] (.agg f124) RT.dec R
def aY (a0)(hg:gd a0):F (bL.r a0)=ret (bL.r (md a0)):=by
 show (call (Z35.R (ah.r a0.aN)) fun v1=>(call (Z35.R (ah.r a0.bT)) fun v2=>(call (Z36.R (aL.r a0.dN)) fun v3=>(call (Z36.R (aL.r a0.cA)) fun v4=>ret ((⟨a0.eG,v1,v2,v3,v4⟩:ff):ff)))))=_
 rw [call_eq (Z35.ak hg.1)]
 rw [call_eq (Z35.ak hg.2.1)]
 rw [call_eq (Z36.ak hg.2.2.1)]
 rw [call_eq (Z36.ak hg.2.2.2)]
 rfl
def af:cz 219 aT:=W1 24 F mix aC aY (eP Z35.af Z36.af) Tryz.func219
end Z37
namespace Z38
def F (x0:bq):aI:=(call (Z29.R x0.aQ) fun v1=>(call (Z35.R x0.aS) fun v2=>(call (Z36.R x0.dy) fun v3=>(call (Z37.R x0.dA) fun v4=>ret ((⟨v1,x0.cj,v2,v3,v4⟩):bq)))))
def md (a0:aq):aq:=a0
def gd (a0:aq):Prop:=aq.Sm (2^36) a0
def R:=RR gd md
def ak {a0}(h:gd a0):R (aq.r a0)=some (aq.r a0):=cV h
def aT:=CN [.agg Ce] (.agg f126) RT.dec R
def aY (a0)(hg:gd a0):F (aq.r a0)=ret (aq.r (md a0)):=by
 show (call (Z29.R (a0.aQ.map aa.row)) fun v1=>(call (Z35.R (ah.r a0.aS)) fun v2=>(call (Z36.R (aL.r a0.dy)) fun v3=>(call (Z37.R (bL.r a0.dA)) fun v4=>ret ((⟨v1,a0.cj,v2,v3,v4⟩:bq):bq)))))=_
 rw [call_eq (Z29.ak hg.1)]
 rw [call_eq (Z35.ak hg.2.1)]
 rw [call_eq (Z36.ak hg.2.2.1)]
 rw [call_eq (Z37.ak hg.2.2.2)]
 rfl
def af:cz 163 aT:=W1 24 F mix aC aY (kE Z29.af Z35.af Z36.af Z37.af) Tryz.func163
end Z38
namespace Z39
def F (x0:bP):aI:=(call (Z38.R x0.bk) fun v1=>ret ((⟨x0.bz,x0.aV,v1⟩):bP))
def md (a0:av):av:=a0
def gd (a0:av):Prop:=av.Sm (2^36) a0
def R:=RR gd md
def ak {a0}(h:gd a0):R (av.r a0)=some (av.r a0):=cV h
def aT:=CN [.agg Ct] (.agg f148) RT.dec R
def aY (a0)(hg:gd a0):F (av.r a0)=ret (av.r (md a0)):=by
 show (call (Z38.R (aq.r a0.bk)) fun v1=>ret ((⟨a0.bz,a0.aV,v1⟩:bP):bP))=_
 rw [call_eq (Z38.ak hg.2)]
 rfl
def af:cz 113 aT:=W1 15 F mix aC aY (cD Z38.af) Tryz.func113
end Z39
namespace Z40
inductive Pt where
 | p0 (a:aB) (b:Int) (c:aB)
def cu:Pt->List V
 | .p0 a b c=>[.sl none 171 a,.own 0,.int .i64 b]
def cR:Pt->List aW
 | .p0 a b c=>[.row 148 c]
def step (J:Pt->aI):Pt->aI
 | .p0 a b c=>(cond (b<(a.length:Int)) (m2 b (a.length:Int) (call (Z39.R (bP.at a (toNat b))) fun v1=>(m2 b (c.length:Int) (J (.p0 a (i64.wrap (b+1)) (List.set c (toNat b) (bP.enc v1))))))) (ret (c:aB)))
def start (J:Pt->aI)(x0:aB):aI:=(bY ((0:Int)<=x0.length) (bY (x0.length<=(x0.length:Int)) (bY ((x0.length:Int)*328<=140737488355328) (J (.p0 x0 0 (List.replicate (toNat x0.length) [L.int 0,L.str ⟨#[]⟩,L.sl [],L.bool false,L.str ⟨#[]⟩,L.int 0,L.int 0,L.sl [],L.int 0,L.sl [],L.int 0,L.str ⟨#[]⟩,L.int 0,L.int 0,L.sl [],L.str ⟨#[]⟩,L.int 0,L.int 0,L.sl [],L.int 0,L.sl [],L.int 0,L.sl []]))))))
def live:Nat->Live:=fK [(3,gj [0,3,4])]
def md (a0:List av):List av:=a0
def gd (a0:List av):Prop:=bN (2^36) (fun y:av=>av.Sm (2^36) y) a0
def R:=RR gd md
def ak {a0}(h:gd a0):R (a0.map av.row)=some (a0.map av.row):=cV h
def aT:=CN [pL 171] (oL 148) RT.dec R
def aY (a0)(hg:gd a0):∃n,start (iter step n) (a0.map av.row)=ret ((md a0).map av.row):=by
 unfold start md
 simp only [List.length_map]
 refine jl (b:=328) (pt:=fun i c=>Pt.p0 (a0.map av.row) (i:Int) c) (by have:=hg.1;simp at this;omega) (fun J i h c hc=>?_) (fun J c=>?_)
 ·simp only [step,MM,List.length_map,aK h,aD,aZ,cM,av.eT h,hc]
  rw [call_eq (Z39.ak (hg.get h))]
  rw [aH (n:=a0.length) h (by have:=hg.1;simp only [maxLen];simp at this;omega)]
  rfl
 ·simp only [step,List.length_map,eM,aX]
def af:cz 51 aT:=L1 23 (fun _=>3) cu cR live step start mix aC aY (cD Z39.af) Tryz.func51
end Z40
namespace Z41
def F (x0:cH):aI:=(call (Z40.R x0.aO) fun v1=>ret ((⟨v1⟩):cH))
def md (a0:aJ):aJ:=a0
def gd (a0:aJ):Prop:=aJ.Sm (2^36) a0
def R:=RR gd md
def ak {a0}(h:gd a0):R (aJ.r a0)=some (aJ.r a0):=cV h
def aT:=CN [.agg De] (.agg f46) RT.dec R
def aY (a0)(hg:gd a0):F (aJ.r a0)=ret (aJ.r (md a0)):=by
 show (call (Z40.R (a0.aO.map av.row)) fun v1=>ret ((⟨v1⟩:cH):cH))=_
 rw [call_eq (Z40.ak hg)]
 rfl
def af:cz 13 aT:=W1 9 F mix aC aY (cD Z40.af) Tryz.func13
end Z41
namespace Z42
inductive Pt where
 | p0 (a:aB) (b:Int) (c:aB)
def cu:Pt->List V
 | .p0 a b c=>[.sl none 164 a,.own 0,.int .i64 b]
def cR:Pt->List aW
 | .p0 a b c=>[.row 38 c]
def step (J:Pt->aI):Pt->aI
 | .p0 a b c=>(cond (b<(a.length:Int)) (m2 b (a.length:Int) (call (Z35.R (bK.at a (toNat b))) fun v1=>(m2 b (c.length:Int) (J (.p0 a (i64.wrap (b+1)) (List.set c (toNat b) (bK.enc v1))))))) (ret (c:aB)))
def start (J:Pt->aI)(x0:aB):aI:=(bY ((0:Int)<=x0.length) (bY (x0.length<=(x0.length:Int)) (bY ((x0.length:Int)*56<=140737488355328) (J (.p0 x0 0 (List.replicate (toNat x0.length) [L.str ⟨#[]⟩,L.int 0,L.int 0,L.sl []]))))))
def live:Nat->Live:=fK [(3,gj [0,3,4])]
def md (a0:List ah):List ah:=a0
def gd (a0:List ah):Prop:=bN (2^36) (fun y:ah=>ah.Sm (2^36) y) a0
def R:=RR gd md
def ak {a0}(h:gd a0):R (a0.map ah.row)=some (a0.map ah.row):=cV h
def aT:=CN [pL 164] (oL 38) RT.dec R
def aY (a0)(hg:gd a0):∃n,start (iter step n) (a0.map ah.row)=ret ((md a0).map ah.row):=by
 unfold start md
 simp only [List.length_map]
 refine jl (b:=56) (pt:=fun i c=>Pt.p0 (a0.map ah.row) (i:Int) c) (by have:=hg.1;simp at this;omega) (fun J i h c hc=>?_) (fun J c=>?_)
 ·simp only [step,MM,List.length_map,aK h,aD,aZ,cM,ah.eT h,hc]
  rw [call_eq (Z35.ak (hg.get h))]
  rw [aH (n:=a0.length) h (by have:=hg.1;simp only [maxLen];simp at this;omega)]
  rfl
 ·simp only [step,List.length_map,eM,aX]
def af:cz 239 aT:=L1 23 (fun _=>3) cu cR live step start mix aC aY (cD Z35.af) Tryz.func239
end Z42
namespace Z43
def F (x0:eE):aI:=(call (Z29.R x0.aQ) fun v1=>(call (Z42.R x0.bR) fun v2=>ret ((⟨v1,v2⟩):eE)))
def md (a0:aP):aP:=a0
def gd (a0:aP):Prop:=aP.Sm (2^36) a0
def R:=RR gd md
def ak {a0}(h:gd a0):R (aP.r a0)=some (aP.r a0):=cV h
def aT:=CN [.agg Co] (.agg f215) RT.dec R
def aY (a0)(hg:gd a0):F (aP.r a0)=ret (aP.r (md a0)):=by
 show (call (Z29.R (a0.aQ.map aa.row)) fun v1=>(call (Z42.R (a0.bR.map ah.row)) fun v2=>ret ((⟨v1,v2⟩:eE):eE)))=_
 rw [call_eq (Z29.ak hg.1)]
 rw [call_eq (Z42.ak hg.2)]
 rfl
def af:cz 184 aT:=W1 13 F mix aC aY (eP Z29.af Z42.af) Tryz.func184
end Z43
namespace Z44
inductive Pt where
 | p0 (a:aB) (b:Int) (c:aB)
def cu:Pt->List V
 | .p0 a b c=>[.sl none 233 a,.own 0,.int .i64 b]
def cR:Pt->List aW
 | .p0 a b c=>[.row 215 c]
def step (J:Pt->aI):Pt->aI
 | .p0 a b c=>(cond (b<(a.length:Int)) (m2 b (a.length:Int) (call (Z43.R (eE.at a (toNat b))) fun v1=>(m2 b (c.length:Int) (J (.p0 a (i64.wrap (b+1)) (List.set c (toNat b) (eE.enc v1))))))) (ret (c:aB)))
def start (J:Pt->aI)(x0:aB):aI:=(bY ((0:Int)<=x0.length) (bY (x0.length<=(x0.length:Int)) (bY ((x0.length:Int)*48<=140737488355328) (J (.p0 x0 0 (List.replicate (toNat x0.length) [L.sl [],L.sl []]))))))
def live:Nat->Live:=fK [(3,gj [0,3,4])]
def md (a0:List aP):List aP:=a0
def gd (a0:List aP):Prop:=bN (2^36) (fun y:aP=>aP.Sm (2^36) y) a0
def R:=RR gd md
def ak {a0}(h:gd a0):R (a0.map aP.row)=some (a0.map aP.row):=cV h
def aT:=CN [pL 233] (oL 215) RT.dec R
def aY (a0)(hg:gd a0):∃n,start (iter step n) (a0.map aP.row)=ret ((md a0).map aP.row):=by
 unfold start md
 simp only [List.length_map]
 refine jl (b:=48) (pt:=fun i c=>Pt.p0 (a0.map aP.row) (i:Int) c) (by have:=hg.1;simp at this;omega) (fun J i h c hc=>?_) (fun J c=>?_)
 ·simp only [step,MM,List.length_map,aK h,aD,aZ,cM,aP.eT h,hc]
  rw [call_eq (Z43.ak (hg.get h))]
  rw [aH (n:=a0.length) h (by have:=hg.1;simp only [maxLen];simp at this;omega)]
  rfl
 ·simp only [step,List.length_map,eM,aX]
def af:cz 141 aT:=L1 23 (fun _=>3) cu cR live step start mix aC aY (cD Z43.af) Tryz.func141
end Z44
namespace Z45
def F (x0:cZ):aI:=(call (Z44.R x0.bM) fun v1=>ret ((⟨v1,x0.iG⟩):cZ))
def md (a0:ay):ay:=a0
def gd (a0:ay):Prop:=ay.Sm (2^36) a0
def R:=RR gd md
def ak {a0}(h:gd a0):R (ay.r a0)=some (ay.r a0):=cV h
def aT:=CN [.agg B6] (.agg f138) RT.dec R
def aY (a0)(hg:gd a0):F (ay.r a0)=ret (ay.r (md a0)):=by
 show (call (Z44.R (a0.bM.map aP.row)) fun v1=>ret ((⟨v1,a0.iG⟩:cZ):cZ))=_
 rw [call_eq (Z44.ak hg)]
 rfl
def af:cz 93 aT:=W1 12 F mix aC aY (cD Z44.af) Tryz.func93
end Z45
namespace Z46
inductive Pt where
 | p0 (a:aB) (b:Int) (c:aB)
def cu:Pt->List V
 | .p0 a b c=>[.sl none 115 a,.own 0,.int .i64 b]
def cR:Pt->List aW
 | .p0 a b c=>[.row 138 c]
def step (J:Pt->aI):Pt->aI
 | .p0 a b c=>(cond (b<(a.length:Int)) (m2 b (a.length:Int) (call (Z45.R (cZ.at a (toNat b))) fun v1=>(m2 b (c.length:Int) (J (.p0 a (i64.wrap (b+1)) (List.set c (toNat b) (cZ.enc v1))))))) (ret (c:aB)))
def start (J:Pt->aI)(x0:aB):aI:=(bY ((0:Int)<=x0.length) (bY (x0.length<=(x0.length:Int)) (bY ((x0.length:Int)*32<=140737488355328) (J (.p0 x0 0 (List.replicate (toNat x0.length) [L.sl [],L.int 0]))))))
def live:Nat->Live:=fK [(3,gj [0,3,4])]
def md (a0:List ay):List ay:=a0
def gd (a0:List ay):Prop:=bN (2^36) (fun y:ay=>ay.Sm (2^36) y) a0
def R:=RR gd md
def ak {a0}(h:gd a0):R (a0.map ay.row)=some (a0.map ay.row):=cV h
def aT:=CN [pL 115] (oL 138) RT.dec R
def aY (a0)(hg:gd a0):∃n,start (iter step n) (a0.map ay.row)=ret ((md a0).map ay.row):=by
 unfold start md
 simp only [List.length_map]
 refine jl (b:=32) (pt:=fun i c=>Pt.p0 (a0.map ay.row) (i:Int) c) (by have:=hg.1;simp at this;omega) (fun J i h c hc=>?_) (fun J c=>?_)
 ·simp only [step,MM,List.length_map,aK h,aD,aZ,cM,ay.eT h,hc]
  rw [call_eq (Z45.ak (hg.get h))]
  rw [aH (n:=a0.length) h (by have:=hg.1;simp only [maxLen];simp at this;omega)]
  rfl
 ·simp only [step,List.length_map,eM,aX]
def af:cz 34 aT:=L1 23 (fun _=>3) cu cR live step start mix aC aY (cD Z45.af) Tryz.func34
end Z46
namespace Z47
def F (x0:dz):aI:=(bY (fJ (x0.aO.length*8)) (ret x0))
def md (a0:aR):aR:=a0
def gd (a0:aR):Prop:=(aR.Sm (2^21) a0)
def R:=RR gd md
def ak {a0}(h:gd a0):R (aR.r a0)=some (aR.r a0):=cV h
def aT:=CN [.agg jG] (.agg f173) RT.dec R
def aY (a0)(H0:gd a0):F (aR.r a0)=ret (aR.r (md a0)):=by
 unfold F md
 simp only [SS]
 exact aj (have:=(H0).1;lm) fz
def af:cz 235 aT:=W1 10 F mix aC aY .nil Tryz.func235
end Z47
namespace Z48
def F (x0:dI):aI:=(call (Z47.R x0.bU) fun v1=>(call (Z47.R x0.bF) fun v2=>(call (Z47.R x0.bC) fun v3=>ret ((⟨x0.bz,x0.cU,x0.bJ,x0.cT,x0.cL,x0.cE,x0.dG,x0.dY,v1,v2,x0.dM,v3,x0.bD⟩):dI))))
def md (a0:aF):aF:=a0
def gd (a0:aF):Prop:=(aF.Sm (2^21) a0)
def R:=RR gd md
def ak {a0}(h:gd a0):R (aF.r a0)=some (aF.r a0):=cV h
def aT:=CN [.agg gH] (.agg f175) RT.dec R
def aY (a0)(H0:gd a0):F (aF.r a0)=ret (aF.r (md a0)):=by
 refine ct (Z47.ak H0.1) (ct (Z47.ak H0.2.1) ?_)
 exact ct (Z47.ak H0.2.2) fz
def af:cz 179 aT:=W1 18 F mix aC aY (cD Z47.af) Tryz.func179
end Z48
namespace Z49
def F (x0:bf):aI:=(call (Z48.R x0.an) fun v1=>(bY (fJ (x0.cP.length*16)) (ret ((⟨v1,x0.cP⟩):bf))))
def md (a0:aa):aa:=a0
def gd (a0:aa):Prop:=(aa.Sm (2^21) a0)
def R:=RR gd md
def ak {a0}(h:gd a0):R (aa.r a0)=some (aa.r a0):=cV h
def aT:=CN [.agg lU] (.agg f178) RT.dec R
def aY (a0)(H0:gd a0):F (aa.r a0)=ret (aa.r (md a0)):=by
 refine ct (Z48.ak H0.1) ?_
 simp only [SS]
 exact aj (have:=(H0.2).1;lm) fz
def af:cz 173 aT:=W1 11 F mix aC aY (cD Z48.af) Tryz.func173
end Z49
namespace Z50
inductive Pt where
 | p0 (a:aB) (b:Int) (c:aB)
def cu:Pt->List V
 | .p0 a b c=>[.sl none 178 a,.own 0,.int .i64 b]
def cR:Pt->List aW
 | .p0 a b c=>[.row 178 c]
def step (J:Pt->aI):Pt->aI
 | .p0 a b c=>(cond (b<(a.length:Int)) (m2 b (a.length:Int) (call (Z49.R (bf.at a (toNat b))) fun v1=>(bY (fJ (((c.length:Int)+1)*200)) (J (.p0 a (i64.wrap (b+1)) (c++[(bf.enc v1)])))))) (ret (c:aB)))
def start (J:Pt->aI)(x0:aB):aI:=J (.p0 x0 0 [])
def live:Nat->Live:=fK [(3,[(0,none),(3,some 178),(4,none)])]
def md (a0:List aa):List aa:=a0
def gd (a0:List aa):Prop:=(bN (2^21) (fun y:aa=>aa.Sm (2^21) y) a0)
def R:=RR gd md
def ak {a0}(h:gd a0):R (a0.map aa.row)=some (a0.map aa.row):=cV h
def aT:=CN [pL 178] (oL 178) RT.dec R
def aY (a0)(H0:gd a0):∃n,start (iter step n) (a0.map aa.row)=ret ((md a0).map aa.row):=by
 have Bh2:=bl H0
 refine ex_eq (out:=(fun b:List aa=>ret ((b.map aa.row):aB))) (iw (xs:=a0) (z:=aa.zero) (t:=fun s3:List aa=>s3)) (eo fz ?_)
 refine cw (pt:=fun (i1:Nat) (s3:List aa)=>Pt.p0 (a0.map aa.row) (i1:Int) (s3.map aa.row)) (s:=([]:List aa)) (out:=(fun b:List aa=>ret ((b.map aa.row):aB))) (fun (i1:Nat) (s3:List aa)=>s3.length<=([]:List Int).length+1*i1) (fun J i1 s3 h2 hih2=>?_) (fun s3 hih2=>?_) (by simp)
 ·simp only [step,SS]
  have gr_:=hih2
  simp only [LN] at gr_
  have:=(H0).1
  refine bp.yes dt (bp.yes aD ?_)
  refine bp.yes (aK h2) (cr (Z49.ak (bN.getD H0 h2)) ?_)
  refine bp.yes lm ?_
  refine bp.inl (by
    (simp;omega)) ?_
  rw [aH h2 Bh2]
  exact fz
 ·simp only [step,SS]
  refine dO dn (⟨0,?_⟩)
  exact fz
def af:cz 132 aT:=L1 21 (fun _=>3) cu cR live step start mix aC aY (cD Z49.af) Tryz.func132
end Z50
namespace Z51
def F (x0:bO):aI:=(call (Z49.R x0.aN) fun v1=>(call (Z49.R x0.fA) fun v2=>(call (Z49.R x0.fB) fun v3=>ret ((⟨v1,v2,v3⟩):bO))))
def md (a0:aG):aG:=a0
def gd (a0:aG):Prop:=(aG.Sm (2^21) a0)
def R:=RR gd md
def ak {a0}(h:gd a0):R (aG.r a0)=some (aG.r a0):=cV h
def aT:=CN [.agg uS] (.agg f180) RT.dec R
def aY (a0)(H0:gd a0):F (aG.r a0)=ret (aG.r (md a0)):=by
 refine ct (Z49.ak H0.1) (ct (Z49.ak H0.2.1) ?_)
 exact ct (Z49.ak H0.2.2) fz
def af:cz 133 aT:=W1 13 F mix aC aY (cD Z49.af) Tryz.func133
end Z51
namespace Z52
inductive Pt where
 | p0 (a:Int) (b:bA) (c:aB)
 | p1 (a:Int) (b:bA) (c d:aB)
def pid:Pt->Nat
 | .p0 ..=>3
 | .p1 ..=>7
def cu:Pt->List V
 | .p0 a b c=>[.cC 0 0,.cC 1 0,.cC 2 0,.int .i64 a,.cC 2 0]
 | .p1 a b c d=>[.cC 0 0,.cC 1 0,.cC 2 0,.int .i64 a,.cC 2 0,.cC 2 0]
def cR:Pt->List aW
 | .p0 a b c=>[.box [.sl none 120 b.aM,.sl none 180 b.bu],.box [.nil,.nil],.box [.own 3,.nil],.row 120 c]
 | .p1 a b c d=>[.box [.sl none 120 b.aM,.sl none 180 b.bu],.box [.nil,.nil],.box [.own 3,.own 4],.row 120 c,.row 180 d]
def step (J:Pt->aI):Pt->aI
 | .p0 a b c=>(cond (a<(b.aM.length:Int)) (m2 a (b.aM.length:Int) (call (Z50.R (qi b.aM (toNat a))) fun v1=>(bY (fJ (((c.length:Int)+1)*24)) (J (.p0 (i64.wrap (a+1)) b (c++[[L.sl v1]])))))) (J (.p1 0 b c [])))
 | .p1 a b c d=>(cond (a<(b.bu.length:Int)) (m2 a (b.bu.length:Int) (call (Z51.R (bO.at b.bu (toNat a))) fun v1=>(bY (fJ (((d.length:Int)+1)*600)) (J (.p1 (i64.wrap (a+1)) b c (d++[(bO.enc v1)])))))) (ret ((⟨c,d⟩:bA):bA)))
def start (J:Pt->aI)(x0:bA):aI:=J (.p0 0 x0 [])
def live:Nat->Live:=fK [(3,[(1,none),(2,none),(3,none),(4,none),(3,some 120)]),(7,[(1,none),(2,none),(3,none),(5,none),(3,some 120),(3,some 1048756)])]
def md (a0:aA):aA:=a0
def gd (a0:aA):Prop:=(aA.Sm (2^21) a0)
def R:=RR gd md
def ak {a0}(h:gd a0):R (aA.r a0)=some (aA.r a0):=cV h
def aT:=CN [.agg xg] (.agg f36) RT.dec R
def aY (a0)(H0:gd a0):∃n,start (iter step n) (aA.r a0)=ret (aA.r (md a0)):=by
 have Bh2:=bl H0.1
 refine ex_eq (out:=(fun b:aA=>ret ((aA.r b):bA))) (iw (xs:=a0.aM) (z:=[]) (t:=fun s3:List (List aa)=>(⟨s3,a0.bu⟩:aA))) (eo fz ?_)
 refine cw (pt:=fun (i1:Nat) (s3:List (List aa))=>Pt.p0 (i1:Int) (aA.r a0) (s3.map (eK aa.row))) (s:=([]:List (List aa))) (out:=(fun b:aA=>ret ((aA.r b):bA))) (fun (i1:Nat) (s3:List (List aa))=>s3.length<=([]:List Int).length+1*i1) (fun J i1 s3 h2 hih2=>?_) (fun s3 hih2=>?_) (by simp)
 ·simp only [step,SS]
  have gr_:=hih2
  simp only [LN] at gr_
  have:=(H0.1).1
  refine bp.yes dt (bp.yes aD ?_)
  refine bp.yes (aK h2) (cr (Z50.ak (bN.getD H0.1 h2)) ?_)
  refine bp.yes lm ?_
  refine bp.inl (by
    (simp;omega)) ?_
  rw [aH h2 Bh2]
  exact fz
 ·simp only [step,SS]
  refine dO dn ?_
  have Bh5:=bl H0.2
  refine ex_eq (out:=(fun b:aA=>ret ((aA.r b):bA))) (iw (xs:=a0.bu) (z:=aG.zero) (t:=fun s6:List aG=>(⟨s3,s6⟩:aA))) (eo fz ?_)
  refine cw (pt:=fun (i4:Nat) (s6:List aG)=>Pt.p1 (i4:Int) (aA.r a0) (s3.map (eK aa.row)) (s6.map aG.row)) (s:=([]:List aG)) (out:=(fun b:aA=>ret ((aA.r b):bA))) (fun (i4:Nat) (s6:List aG)=>s6.length<=([]:List Int).length+1*i4) (fun J i4 s6 h5 hih5=>?_) (fun s6 hih5=>?_) (by simp)
  ·simp only [step,SS]
   have gr_:=hih5
   simp only [LN] at gr_
   have:=(H0.2).1
   refine bp.yes dt (bp.yes aD ?_)
   refine bp.yes (aK h5) (cr (Z51.ak (bN.getD H0.2 h5)) ?_)
   refine bp.yes lm ?_
   refine bp.inl (by
     (simp;omega)) ?_
   rw [aH h5 Bh5]
   exact fz
  ·simp only [step,SS]
   refine dO dn (⟨0,?_⟩)
   exact fz
def af:cz 83 aT:=L1 44 pid cu cR live step start mix aC aY (eP Z50.af Z51.af) Tryz.func83
end Z52
namespace Z53
def F (x0:aB):aI:=(bY (fJ (x0.length*16)) (ret (x0:aB)))
def md (a0:List aE):List aE:=a0
def gd (a0:List aE):Prop:=(bN (2^21) (fun y:aE=>y.size<=(2^21)) a0)
def R:=RR gd md
def ak {a0}(h:gd a0):R (a0.map cX)=some (a0.map cX):=cV h
def aT:=CN [pL 9] (oL 9) RT.dec R
def aY (a0)(H0:gd a0):F (a0.map cX)=ret ((md a0).map cX):=aj (have:=(H0).1;lm) fz
def af:cz 86 aT:=W1 6 F mix aC aY .nil Tryz.func86
end Z53
namespace Z54
def F (x0:bK):aI:=(call (Z53.R x0.bh) fun v1=>ret ((⟨x0.aV,x0.bJ,x0.bX,v1⟩):bK))
def md (a0:ah):ah:=a0
def gd (a0:ah):Prop:=(ah.Sm (2^21) a0)
def R:=RR gd md
def ak {a0}(h:gd a0):R (ah.r a0)=some (ah.r a0):=cV h
def aT:=CN [.agg tw] (.agg f38) RT.dec R
def aY (a0)(H0:gd a0):F (ah.r a0)=ret (ah.r (md a0)):=ct (Z53.ak H0.2) fz
def af:cz 140 aT:=W1 13 F mix aC aY (cD Z53.af) Tryz.func140
end Z54
namespace Z55
def F (x0:dX):aI:=(bY (fJ (x0.bh.length*8)) (ret x0))
def md (a0:aL):aL:=a0
def gd (a0:aL):Prop:=(aL.Sm (2^21) a0)
def R:=RR gd md
def ak {a0}(h:gd a0):R (aL.r a0)=some (aL.r a0):=cV h
def aT:=CN [.agg pP] (.agg f122) RT.dec R
def aY (a0)(H0:gd a0):F (aL.r a0)=ret (aL.r (md a0)):=by
 unfold F md
 simp only [SS]
 exact aj (have:=(H0).1;lm) fz
def af:cz 174 aT:=W1 10 F mix aC aY .nil Tryz.func174
end Z55
namespace Z56
def F (x0:ff):aI:=(call (Z54.R x0.aN) fun v1=>(call (Z54.R x0.bT) fun v2=>(call (Z55.R x0.dN) fun v3=>(call (Z55.R x0.cA) fun v4=>ret ((⟨x0.eG,v1,v2,v3,v4⟩):ff)))))
def md (a0:bL):bL:=a0
def gd (a0:bL):Prop:=(bL.Sm (2^21) a0)
def R:=RR gd md
def ak {a0}(h:gd a0):R (bL.r a0)=some (bL.r a0):=cV h
def aT:=CN [.agg sQ] (.agg f124) RT.dec R
def aY (a0)(H0:gd a0):F (bL.r a0)=ret (bL.r (md a0)):=by
 refine ct (Z54.ak H0.1) (ct (Z54.ak H0.2.1) ?_)
 refine ct (Z55.ak H0.2.2.1) (ct (Z55.ak H0.2.2.2) ?_)
 exact fz
def af:cz 175 aT:=W1 18 F mix aC aY (eP Z54.af Z55.af) Tryz.func175
end Z56
namespace Z57
def F (x0:bq):aI:=(call (Z50.R x0.aQ) fun v1=>(call (Z54.R x0.aS) fun v2=>(call (Z55.R x0.dy) fun v3=>(call (Z56.R x0.dA) fun v4=>ret ((⟨v1,x0.cj,v2,v3,v4⟩):bq)))))
def md (a0:aq):aq:=a0
def gd (a0:aq):Prop:=(aq.Sm (2^21) a0)
def R:=RR gd md
def ak {a0}(h:gd a0):R (aq.r a0)=some (aq.r a0):=cV h
def aT:=CN [.agg sn] (.agg f126) RT.dec R
def aY (a0)(H0:gd a0):F (aq.r a0)=ret (aq.r (md a0)):=by
 refine ct (Z50.ak H0.1) (ct (Z54.ak H0.2.1) ?_)
 refine ct (Z55.ak H0.2.2.1) (ct (Z56.ak H0.2.2.2) ?_)
 exact fz
def af:cz 134 aT:=W1 18 F mix aC aY (kE Z50.af Z54.af Z55.af Z56.af) Tryz.func134
end Z57
namespace Z58
inductive Pt where
 | p0 (a:Int) (b:cH) (c:aB)
def cu:Pt->List V
 | .p0 a b c=>[.cC 0 0,.cC 1 0,.cC 2 0,.int .i64 a,.cC 2 0]
def cR:Pt->List aW
 | .p0 a b c=>[.box [.sl none 148 b.aO],.box [.nil],.box [.own 3],.row 148 c]
def step (J:Pt->aI):Pt->aI
 | .p0 a b c=>(cond (a<(b.aO.length:Int)) (m2 a (b.aO.length:Int) (m2 a (b.aO.length:Int) (m2 a (b.aO.length:Int) (call (Z57.R ((bP.at b.aO (toNat a)).bk)) fun v1=>(bY (fJ (((c.length:Int)+1)*328)) (J (.p0 (i64.wrap (a+1)) b (c++[(bP.enc (⟨(bP.at b.aO (toNat a)).bz,(bP.at b.aO (toNat a)).aV,v1⟩:bP))])))))))) (ret ((⟨c⟩:cH):cH)))
def start (J:Pt->aI)(x0:cH):aI:=J (.p0 0 x0 [])
def live:Nat->Live:=fK [(3,[(1,none),(2,none),(3,none),(4,none),(3,some 148)])]
def md (a0:aJ):aJ:=a0
def gd (a0:aJ):Prop:=(aJ.Sm (2^21) a0)
def R:=RR gd md
def ak {a0}(h:gd a0):R (aJ.r a0)=some (aJ.r a0):=cV h
def aT:=CN [.agg zh] (.agg f46) RT.dec R
def aY (a0)(H0:gd a0):∃n,start (iter step n) (aJ.r a0)=ret (aJ.r (md a0)):=by
 have Bh2:=bl H0
 refine ex_eq (out:=(fun b:aJ=>ret ((aJ.r b):cH))) (iw (xs:=a0.aO) (z:=av.zero) (t:=fun s3:List av=>(⟨s3⟩:aJ))) (eo fz ?_)
 refine cw (pt:=fun (i1:Nat) (s3:List av)=>Pt.p0 (i1:Int) (aJ.r a0) (s3.map av.row)) (s:=([]:List av)) (out:=(fun b:aJ=>ret ((aJ.r b):cH))) (fun (i1:Nat) (s3:List av)=>s3.length<=([]:List Int).length+1*i1) (fun J i1 s3 h2 hih2=>?_) (fun s3 hih2=>?_) (by simp)
 ·simp only [step,SS]
  have gr_:=hih2
  simp only [LN] at gr_
  have:=(H0).1
  refine bp.yes dt (bp.yes aD ?_)
  refine bp.yes (aK h2) (bp.yes aD ?_)
  refine bp.yes (aK h2) (bp.yes aD ?_)
  refine bp.yes (aK h2) (cr (Z57.ak (bN.getD H0 h2).2) ?_)
  refine bp.yes lm ?_
  refine bp.inl (by
    (simp;omega)) ?_
  rw [aH h2 Bh2]
  exact fz
 ·simp only [step,SS]
  refine dO dn (⟨0,?_⟩)
  exact fz
def af:cz 84 aT:=L1 39 (fun _=>3) cu cR live step start mix aC aY (cD Z57.af) Tryz.func84
end Z58
namespace Z59
def F (x0 x1 x2:Int):aI:=(cond (x0>=x1) (ret ((decide (x0<=x2)))) (ret false))
def md (a0 a1 a2:Int):Bool:=(cond (a0>=a1) ((decide (a0<=a2))) false)
def gd (a0 a1 a2:Int):Prop:=True
def R:=lp gd md
def ak {a0 a1 a2}(h:gd a0 a1 a2):R (a0,a1,a2)=some (md a0 a1 a2):=kZ h
def aT:=CN [pI,pI,pI] oB RT.dec R
def aY (a0)(a1)(a2)(hg:gd a0 a1 a2):F a0 a1 a2=ret (md a0 a1 a2):=by
 refine bs (fun c1=>?_) (fun _=>rfl)
 exact fz
def af:cz 124 aT:=W3 15 F mix aC aY .nil Tryz.func124
end Z59
namespace Z60
inductive Pt where
 | p0 (a:aE) (b:Int)
def cu:Pt->List V
 | .p0 a b=>[.str a,.int .i64 b]
def step (J:Pt->aI):Pt->aI
 | .p0 a b=>(cond (b<(a.size:Int)) (m2 b (a.size:Int) (cond ((eV a (toNat b))<97) (m2 b (a.size:Int) (cond ((eV a (toNat b))<48) (m2 b (a.size:Int) (cond ((eV a (toNat b)) != 45) dx (J (.p0 a (i64.wrap (b+1)))))) (m2 b (a.size:Int) (cond ((eV a (toNat b))>57) (m2 b (a.size:Int) (cond ((eV a (toNat b)) != 45) dx (J (.p0 a (i64.wrap (b+1)))))) (J (.p0 a (i64.wrap (b+1)))))))) (m2 b (a.size:Int) (cond ((eV a (toNat b))>122) (m2 b (a.size:Int) (cond ((eV a (toNat b))<48) (m2 b (a.size:Int) (cond ((eV a (toNat b)) != 45) dx (J (.p0 a (i64.wrap (b+1)))))) (m2 b (a.size:Int) (cond ((eV a (toNat b))>57) (m2 b (a.size:Int) (cond ((eV a (toNat b)) != 45) dx (J (.p0 a (i64.wrap (b+1)))))) (J (.p0 a (i64.wrap (b+1)))))))) (J (.p0 a (i64.wrap (b+1)))))))) gA)
def start (J:Pt->aI)(x0:aE):aI:=(call (Z59.R (x0.size,1,8)) fun v1=>(cond (!v1) (ret false) (bY ((0:Int)<x0.size) (cond ((eV x0 0)==45) (ret false) (bY ((0:Int)<=(i64.wrap (x0.size - 1))) (bY ((i64.wrap (x0.size - 1))<x0.size) (cond ((eV x0 (toNat (i64.wrap (x0.size - 1))))==45) (ret false) (J (.p0 x0 0)))))))))
def live:Nat->Live:=fK [(4,gj [0,3])]
def md (a0:aE):Bool:=(bif (!(Z59.md a0.size 1 8)) then false else (bif ((eV a0 0)==45) then false else (bif ((eV a0 (toNat (i64.wrap (a0.size - 1))))==45) then false else (eX (S:=Unit) (β:=Bool) (fun i4 s6=>(cond ((eV a0 i4)<97) (cond ((eV a0 i4)<48) (cond ((eV a0 i4) != 45) (.inr false) (.inl ())) (cond ((eV a0 i4)>57) (cond ((eV a0 i4) != 45) (.inr false) (.inl ())) (.inl ()))) (cond ((eV a0 i4)>122) (cond ((eV a0 i4)<48) (cond ((eV a0 i4) != 45) (.inr false) (.inl ())) (cond ((eV a0 i4)>57) (cond ((eV a0 i4) != 45) (.inr false) (.inl ())) (.inl ()))) (.inl ())))) (fun s6=>true) a0.size 0 ()))))
def gd (a0:aE):Prop:=(a0.size<=(2^22))
def R:=RR gd md
def ak {a0}(h:gd a0):R a0=some (md a0):=cV h
def aT:=CN [pS] oB RT.dec R
def aY (a0)(H0:gd a0):∃n,start (iter step n) a0=ret (md a0):=by
 refine cx (Z59.ak trivial) (iK ret (fun _=>⟨0,rfl⟩) (fun c1=>?_))
 have Dc1:=c1
 simp [Z59.md] at Dc1
 refine dW (have:=H0;dt) (iK ret (fun _=>⟨0,rfl⟩) (fun c2=>?_))
 refine dW (have:=H0;dt) (dW (have:=H0;dt) ?_)
 refine iK ret (fun _=>⟨0,rfl⟩) (fun c3=>?_)
 have Bh5:a0.size<=maxLen:=(by
   simp only [maxLen] at *
   omega)
 refine eo fz (cw (pt:=fun (i4:Nat) (s6:Unit)=>Pt.p0 a0 (i4:Int)) (fun _ _=>True) (fun J i4 s6 h5 hih5=>?_) (fun s6 hih5=>?_) trivial)
 ·simp only [step,SS]
  refine bp.yes dt (bp.yes aD ?_)
  refine bp.yes (aK h5) (bp.bif (fun c7=>?_) (fun c7=>?_))
  ·refine bp.yes aD (bp.yes (aK h5) ?_)
   refine bp.bif (fun c8=>?_) (fun c8=>?_)
   ·refine bp.yes aD (bp.yes (aK h5) ?_)
    refine bp.bif (fun _=>bp.inr rfl) (fun c9=>?_)
    refine bp.inl trivial ?_
    rw [aH h5 Bh5]
   ·refine bp.yes aD (bp.yes (aK h5) ?_)
    refine bp.bif (fun c10=>?_) (fun c10=>?_)
    ·refine bp.yes aD (bp.yes (aK h5) ?_)
     refine bp.bif (fun _=>bp.inr rfl) (fun c11=>?_)
     refine bp.inl trivial ?_
     rw [aH h5 Bh5]
    ·refine bp.inl trivial ?_
     rw [aH h5 Bh5]
  ·refine bp.yes aD (bp.yes (aK h5) ?_)
   refine bp.bif (fun c12=>?_) (fun c12=>?_)
   ·refine bp.yes aD (bp.yes (aK h5) ?_)
    refine bp.bif (fun c13=>?_) (fun c13=>?_)
    ·refine bp.yes aD (bp.yes (aK h5) ?_)
     refine bp.bif (fun _=>bp.inr rfl) (fun c14=>?_)
     refine bp.inl trivial ?_
     rw [aH h5 Bh5]
    ·refine bp.yes aD (bp.yes (aK h5) ?_)
     refine bp.bif (fun c15=>?_) (fun c15=>?_)
     ·refine bp.yes aD (bp.yes (aK h5) ?_)
      refine bp.bif (fun _=>bp.inr rfl) (fun c16=>?_)
      refine bp.inl trivial ?_
      rw [aH h5 Bh5]
     ·refine bp.inl trivial ?_
      rw [aH h5 Bh5]
   ·refine bp.inl trivial ?_
    rw [aH h5 Bh5]
 ·simp only [step,SS]
  refine dO dn (⟨0,?_⟩)
  exact fz
def af:cz 122 aT:=L1 55 (fun _=>4) cu (fun _=>[]) live step start mix aC aY (cD Z59.af) Tryz.func122
def tr {a0:aE}(h:md a0=true):1<=a0.size/\a0.size<=8:=by
 unfold md at h
 cases e:Z59.md (a0.size:Int) 1 8
 ·rw [e] at h;cases h
 ·simp [Z59.md] at e;omega
end Z60
namespace Z61
inductive Pt where
 | p0 (a:aB) (b:Int)
def cu:Pt->List V
 | .p0 a b=>[.sl none 9 a,.int .i64 b]
def step (J:Pt->aI):Pt->aI
 | .p0 a b=>(cond (b<(a.length:Int)) (m2 b (a.length:Int) (call (Z60.R (qS a (toNat b))) fun v1=>(cond (!v1) dx (J (.p0 a (i64.wrap (b+1))))))) (call (Z59.R ((a.length:Int),1,4)) fun v2=>ret (v2:Bool)))
def start (J:Pt->aI)(x0:aB):aI:=J (.p0 x0 0)
def live:Nat->Live:=fK [(2,gj [0,3])]
def md (a0:List aE):Bool:=(eJ (S:=Unit) (β:=Bool) (fun y1 s3=>(cond (!(Z60.md y1)) (.inr false) (.inl ()))) (fun s3=>((Z59.md a0.length 1 4))) a0 ())
def gd (a0:List aE):Prop:=(bN (2^22) (fun y:aE=>y.size<=(2^22)) a0)
def R:=RR gd md
def ak {a0}(h:gd a0):R (a0.map cX)=some (md a0):=cV h
def aT:=CN [pL 9] oB RT.dec R
def aY (a0)(H0:gd a0):∃n,start (iter step n) (a0.map cX)=ret (md a0):=by
 have Bh2:=bl H0
 refine ex_eq (fu (z:=⟨#[]⟩)) (eo fz ?_)
 refine cw (pt:=fun (i1:Nat) (s3:Unit)=>Pt.p0 (a0.map cX) (i1:Int)) (fun _ _=>True) (fun J i1 s3 h2 hih2=>?_) (fun s3 hih2=>?_) trivial
 ·simp only [step,SS]
  refine bp.yes dt (bp.yes aD ?_)
  refine bp.yes (aK h2) (cr (Z60.ak (bN.getD H0 h2)) ?_)
  refine bp.bif (fun _=>bp.inr rfl) (fun c4=>?_)
  refine bp.inl trivial ?_
  rw [aH h2 Bh2]
 ·simp only [step,SS]
  refine dO dn (cx (Z59.ak trivial) ?_)
  refine ⟨0,?_⟩
  exact fz
def af:cz 85 aT:=L1 19 (fun _=>2) cu (fun _=>[]) live step start mix aC aY (eP Z60.af Z59.af) Tryz.func85
def tr {a0:List aE}(h:md a0=true):(1<=a0.length/\a0.length<=4)/\∀x∈a0,x.size<=8:=by
 have e:=nH (p:=fun y=>!(Z60.md y)) (b:=false) (c:=Z59.md (a0.length:Int) 1 4) (xs:=a0) (s:=())
 rw [show md a0=_ from e] at h
 cases ha:a0.any (fun y=>!(Z60.md y))<;>rw [ha] at h
 ·have h2:Z59.md (a0.length:Int) 1 4=true:=h
  simp [Z59.md] at h2
  refine ⟨by omega,fun x hx=>?_⟩
  rw [List.any_eq_false] at ha
  have:=ha x hx
  exact (Z60.tr (by simpa using this)).2
 ·cases h
def tl {x:aE}{xs:List aE}(h:md (x::xs)=true)(hx:¬xs.length=0):md xs=true:=by
 have key:∀a:List aE,md a=bif a.any (fun y=>!(Z60.md y)) then false else Z59.md (a.length:Int) 1 4:=fun a=>nH (b:=false) (c:=Z59.md (a.length:Int) 1 4) (xs:=a)
 have t:=tr h
 simp only [List.length_cons] at t
 rw [key] at h ⊢
 rw [List.any_cons] at h
 cases h1:xs.any (fun y=>!(Z60.md y)) with
 | true=>rw [h1,Bool.or_true] at h;cases h
 | false=>simp [Z59.md];omega
end Z61
namespace Z62
inductive Pt where
 | p0 (a:Int) (b:aE) (c:Int) (d:cH)
def cu:Pt->List V
 | .p0 a b c d=>[.int .i64 a,.str b,.cC 0 0,.int .i64 c]
def cR:Pt->List aW
 | .p0 a b c d=>[.box [.sl none 148 d.aO]]
def step (J:Pt->aI):Pt->aI
 | .p0 a b c d=>(cond (c<(d.aO.length:Int)) (m2 c (d.aO.length:Int) (cond ((bP.at d.aO (toNat c)).bz==a) (m2 c (d.aO.length:Int) (cond ((bP.at d.aO (toNat c)).aV==b) (ret (c:Int)) (J (.p0 a b (i64.wrap (c+1)) d)))) (J (.p0 a b (i64.wrap (c+1)) d)))) bV)
def start (J:Pt->aI)(x0:cH)(x1:Int)(x2:aE):aI:=J (.p0 x1 x2 0 x0)
def live:Nat->Live:=fK [(2,gj [1,2,3,7])]
def md (a0:aJ)(a1:Int)(a2:aE):Int:=(ep (S:=Unit) (β:=Int) (fun i1 y1 s3=>(cond (y1.bz==a1) (cond (y1.aV==a2) (.inr (i1)) (.inl ())) (.inl ()))) (fun s3=>((-1):Int)) 0 a0.aO ())
def gd (a0:aJ)(a1:Int)(a2:aE):Prop:=(aJ.Sm (2^21) a0)
def R:=lp gd md
def ak {a0 a1 a2}(h:gd a0 a1 a2):R ((aJ.r a0),a1,a2)=some (md a0 a1 a2):=kZ h
def aT:=CN [.agg zh,pI,pS] oI RT.dec R
def aY (a0)(a1)(a2)(H0:gd a0 a1 a2):∃n,start (iter step n) (aJ.r a0) a1 a2=ret (md a0 a1 a2):=by
 have Bh2:=bl H0
 refine ex_eq (dw (z:=av.zero)) (eo fz ?_)
 refine cw (pt:=fun (i1:Nat) (s3:Unit)=>Pt.p0 a1 a2 (i1:Int) (aJ.r a0)) (fun _ _=>True) (fun J i1 s3 h2 hih2=>?_) (fun s3 hih2=>?_) trivial
 ·simp only [step,SS]
  refine bp.yes dt (bp.yes aD ?_)
  refine bp.yes (aK h2) (bp.bif (fun c4=>?_) (fun c4=>?_))
  ·refine bp.yes aD (bp.yes (aK h2) ?_)
   refine bp.bif (fun c5=>bp.inr fz) (fun c5=>?_)
   refine bp.inl trivial ?_
   rw [aH h2 Bh2]
  ·refine bp.inl trivial ?_
   rw [aH h2 Bh2]
 ·simp only [step,SS]
  refine dO dn (⟨0,?_⟩)
  exact fz
def af:cz 135 aT:=L3 34 (fun _=>2) cu cR live step start mix aC aY .nil Tryz.func135
def fa (a0:aJ)(a1:Int)(a2:aE):-1<=md a0 a1 a2/\md a0 a1 a2<(a0.aO.length:Int):=by
 refine iO ?_ _ _
 all_goals
  intro i x s b h
  revert h
  simp only [Bool.cond_eq_ite]
  repeat' split
  all_goals (intro h;first | (cases h;rfl) | cases h)
end Z62
namespace Z63
def F (x0:cH)(x1:Int)(x2:aE):aI:=(call (Z62.R (x0,x1,x2)) fun v1=>(cond (v1<0) (ret ((⟨[],false,(⟨(⟨#[]⟩:aE),0,0,[]⟩),(⟨0,[]⟩),(⟨0,(⟨(⟨#[]⟩:aE),0,0,[]⟩),(⟨(⟨#[]⟩:aE),0,0,[]⟩),(⟨0,[]⟩),(⟨0,[]⟩)⟩)⟩):bq)) (m2 v1 x0.aO.length (call (Z57.R ((bP.at x0.aO (toNat v1)).bk)) fun v2=>ret v2))))
def md (a0:aJ)(a1:Int)(a2:aE):aq:=(cond ((Z62.md a0 a1 a2)<0) (⟨[],false,(⟨((⟨#[]⟩:aE)),0,0,[]⟩),(⟨0,[]⟩),(⟨0,(⟨((⟨#[]⟩:aE)),0,0,[]⟩),(⟨((⟨#[]⟩:aE)),0,0,[]⟩),(⟨0,[]⟩),(⟨0,[]⟩)⟩)⟩) ((a0.aO.getD (toNat (Z62.md a0 a1 a2)) av.zero).bk))
def gd (a0:aJ)(a1:Int)(a2:aE):Prop:=(aJ.Sm (2^21) a0)
def R:=lp gd md
def ak {a0 a1 a2}(h:gd a0 a1 a2):R ((aJ.r a0),a1,a2)=some (aq.r (md a0 a1 a2)):=kZ h
def aT:=CN [.agg zh,pI,pS] (.agg f126) RT.dec R
def aY (a0)(a1)(a2)(H0:gd a0 a1 a2):F (aJ.r a0) a1 a2=ret (aq.r (md a0 a1 a2)):=by
 unfold F md
 simp only [SS]
 refine ct (Z62.ak H0) ?_
 have fv1_:=Z62.fa a0 a1 a2
 refine bo (fun c1=>fz) (fun c1=>?_)
 have dc1:=c1
 simp only [DC] at dc1
 refine aj dt (aj dt ?_)
 exact ct (Z57.ak (bN.getD H0 (by omega)).2) fz
def af:cz 87 aT:=W3 22 F mix aC aY (eP Z62.af Z57.af) Tryz.func87
def iR {a0:aJ}{a1:Int}{a2:aE}(hg:gd a0 a1 a2):aq.Sm (2^21) (md a0 a1 a2):=by
 unfold gd at hg;unfold md
 have hf:=Z62.fa a0 a1 a2
 cases h:decide (Z62.md a0 a1 a2<0)
 ·simp only [decide_eq_false_iff_not] at h
  exact (bN.getD hg (by omega)).2
 ·exact ⟨bN.nil,⟨(zero_le _),bN.nil⟩,bN.nil,⟨⟨(zero_le _),bN.nil⟩,⟨(zero_le _),bN.nil⟩,bN.nil,bN.nil⟩⟩
end Z63
namespace Z64
inductive Pt where
 | p0 (a:Int) (b:dz)
def cu:Pt->List V
 | .p0 a b=>[.cC 0 0,.int .i64 a]
def cR:Pt->List aW
 | .p0 a b=>[.box [.sl none 3 b.aO,.int .i64 b.cO]]
def step (J:Pt->aI):Pt->aI
 | .p0 a b=>(cond (a<(b.aO.length:Int)) (m2 a (b.aO.length:Int) (call (Z59.R ((kr b.aO (toNat a)),1,99)) fun v1=>(cond (!v1) dx (cond (a>0) (bY ((0:Int)<=(i64.wrap (a - 1))) (bY ((i64.wrap (a - 1))<(b.aO.length:Int)) (m2 a (b.aO.length:Int) (cond ((kr b.aO (toNat (i64.wrap (a - 1))))>=(kr b.aO (toNat a))) dx (J (.p0 (i64.wrap (a+1)) b)))))) (J (.p0 (i64.wrap (a+1)) b)))))) (call (Z59.R ((b.aO.length:Int),1,4)) fun v2=>(cond v2 (call (Z59.R (b.cO,1,(b.aO.length:Int))) fun v3=>ret (v3:Bool)) dx)))
def start (J:Pt->aI)(x0:dz):aI:=J (.p0 0 x0)
def live:Nat->Live:=fK [(2,gj [1,3])]
def md (a0:aR):Bool:=(ep (S:=Unit) (β:=Bool) (fun i1 y1 s3=>(cond (!(Z59.md y1 1 99)) (.inr false) (cond ((i1:Int)>0) (cond ((a0.aO.getD (toNat (i64.wrap (i1 - 1))) 0)>=y1) (.inr false) (.inl ())) (.inl ())))) (fun s3=>(cond (Z59.md a0.aO.length 1 4) ((Z59.md a0.cO 1 a0.aO.length)) false)) 0 a0.aO ())
def gd (a0:aR):Prop:=(aR.Sm (2^21) a0)
def R:=RR gd md
def ak {a0}(h:gd a0):R (aR.r a0)=some (md a0):=cV h
def aT:=CN [.agg jG] oB RT.dec R
def aY (a0)(H0:gd a0):∃n,start (iter step n) (aR.r a0)=ret (md a0):=by
 have Bh2:=bl H0
 refine ex_eq (dw (z:=0)) (eo fz ?_)
 refine cw (pt:=fun (i1:Nat) (s3:Unit)=>Pt.p0 (i1:Int) (aR.r a0)) (fun _ _=>True) (fun J i1 s3 h2 hih2=>?_) (fun s3 hih2=>?_) trivial
 ·simp only [step,SS]
  have:=(H0).1
  refine bp.yes dt (bp.yes aD ?_)
  refine bp.yes (aK h2) (cr (Z59.ak trivial) ?_)
  refine bp.bif (fun _=>bp.inr rfl) (fun c4=>?_)
  refine bp.bif (fun c5=>?_) (fun c5=>?_)
  ·have dc5:=c5
   simp only [DC] at dc5
   refine bp.yes dt (bp.yes dt ?_)
   refine bp.yes aD (bp.yes (aK h2) ?_)
   refine bp.bif (fun _=>bp.inr rfl) (fun c6=>?_)
   refine bp.inl trivial ?_
   rw [aH h2 Bh2]
  ·refine bp.inl trivial ?_
   rw [aH h2 Bh2]
 ·simp only [step,SS]
  refine dO dn (cx (Z59.ak trivial) ?_)
  refine iK ret (fun c7=>?_) (fun _=>⟨0,rfl⟩)
  refine cx (Z59.ak trivial) (⟨0,?_⟩)
  exact fz
def af:cz 352 aT:=L1 48 (fun _=>2) cu cR live step start mix aC aY (cD Z59.af) Tryz.func352
def tr {a0:aR}(h:md a0=true):1<=a0.aO.length/\a0.aO.length<=4:=by
 refine Classical.byContradiction fun hc=>?_
 have e1:Z59.md (a0.aO.length:Int) 1 4=false:=by simp [Z59.md];omega
 unfold md at h
 rw [e1] at h
 have h3:=nq (c:=false) (f:=fun (i1:Nat) (y1:Int) (s3:Unit)=>(cond (!(Z59.md y1 1 99)) (.inr (false:Bool)) (cond ((i1:Int)>0) (cond ((a0.aO.getD (toNat (i64.wrap ((i1:Int) - 1))) 0)>=y1) (.inr (false:Bool)) (.inl ())) (.inl ())))) (by
  intro i x s b h
  revert h
  simp only [Bool.cond_eq_ite]
  repeat' split
  all_goals (intro h;first | (cases h;rfl) | cases h)) a0.aO 0 ()
 simp only [aX] at h
 rw [h3] at h
 cases h
end Z64
namespace Z65
def F (x0:dz):aI:=(cond (x0.cO==0) (ret (((x0.aO.length:Int)==0))) (ret false))
def md (a0:aR):Bool:=(cond (a0.cO==0) (((a0.aO.length:Int)==0)) false)
def gd (a0:aR):Prop:=True
def R:=RR gd md
def ak {a0}(h:gd a0):R (aR.r a0)=some (md a0):=cV h
def aT:=CN [.agg jG] oB RT.dec R
def aY (a0)(hg:gd a0):F (aR.r a0)=ret (md a0):=by
 refine bs (fun c1=>?_) (fun _=>rfl)
 exact fz
def af:cz 353 aT:=W1 12 F mix aC aY .nil Tryz.func353
end Z65
namespace Z66
def F (x0:dI):aI:=(call (Z59.R (x0.bz,0,2147483646)) fun v1=>(cond (!v1) (ret false) (call (Z59.R (x0.dG,0,2147483646)) fun v2=>(cond (!v2) (ret false) (call (Z59.R (x0.dY,0,2147483646)) fun v3=>(cond (!v3) (ret false) (call (Z59.R (x0.cU,0,200)) fun v4=>(cond (!v4) (ret false) (call (Z59.R (x0.bJ,1,3)) fun v5=>(cond (!v5) (ret false) (call (Z59.R (x0.cT,0,100000)) fun v6=>(cond (!v6) (ret false) (call (Z59.R (x0.cL,x0.cT,100000)) fun v7=>(cond (!v7) (ret false) (cond ((i64.wrap (x0.cL - x0.cT))>200) (ret false) (call (Z59.R (x0.cE,0,12)) fun v8=>(cond (!v8) (ret false) (call (Z64.R x0.bU) fun v9=>(cond (!v9) (ret false) (call (Z65.R x0.bF) fun v10=>(cond v10 (cond (x0.dM != 0) (ret false) (call (Z64.R x0.bC) fun v11=>(cond v11 (ret true) (call (Z65.R x0.bC) fun v12=>(cond v12 (ret ((!x0.bD))) (ret false)))))) (call (Z64.R x0.bF) fun v13=>(cond (!v13) (ret false) (call (Z59.R (x0.dM,1,500)) fun v14=>(cond (!v14) (ret false) (call (Z64.R x0.bC) fun v15=>(cond v15 (ret true) (call (Z65.R x0.bC) fun v16=>(cond v16 (ret ((!x0.bD))) (ret false))))))))))))))))))))))))))))))
def md (a0:aF):Bool:=(cond (!(Z59.md a0.bz 0 2147483646)) false (cond (!(Z59.md a0.dG 0 2147483646)) false (cond (!(Z59.md a0.dY 0 2147483646)) false (cond (!(Z59.md a0.cU 0 200)) false (cond (!(Z59.md a0.bJ 1 3)) false (cond (!(Z59.md a0.cT 0 100000)) false (cond (!(Z59.md a0.cL a0.cT 100000)) false (cond ((i64.wrap (a0.cL - a0.cT))>200) false (cond (!(Z59.md a0.cE 0 12)) false (cond (!(Z64.md a0.bU)) false (cond (Z65.md a0.bF) (cond (a0.dM != 0) false (cond (Z64.md a0.bC) true (cond (Z65.md a0.bC) ((!a0.bD)) false))) (cond (!(Z64.md a0.bF)) false (cond (!(Z59.md a0.dM 1 500)) false (cond (Z64.md a0.bC) true (cond (Z65.md a0.bC) ((!a0.bD)) false)))))))))))))))
def gd (a0:aF):Prop:=(aF.Sm (2^21) a0)
def R:=RR gd md
def ak {a0}(h:gd a0):R (aF.r a0)=some (md a0):=cV h
def aT:=CN [.agg gH] oB RT.dec R
def aY (a0)(H0:gd a0):F (aF.r a0)=ret (md a0):=by
 refine ct (Z59.ak trivial) (bs (fun _=>rfl) (fun c1=>?_))
 refine ct (Z59.ak trivial) (bs (fun _=>rfl) (fun c2=>?_))
 refine ct (Z59.ak trivial) (bs (fun _=>rfl) (fun c3=>?_))
 refine ct (Z59.ak trivial) (bs (fun _=>rfl) (fun c4=>?_))
 refine ct (Z59.ak trivial) (bs (fun _=>rfl) (fun c5=>?_))
 refine ct (Z59.ak trivial) (bs (fun _=>rfl) (fun c6=>?_))
 refine ct (Z59.ak trivial) (bs (fun _=>rfl) (fun c7=>?_))
 refine bs (fun _=>rfl) (fun c8=>?_)
 refine ct (Z59.ak trivial) (bs (fun _=>rfl) (fun c9=>?_))
 refine ct (Z64.ak H0.1) (bs (fun _=>rfl) (fun c10=>?_))
 refine ct (Z65.ak trivial) (bs (fun c11=>?_) (fun c11=>?_))
 ·refine bs (fun _=>rfl) (fun c12=>?_)
  refine ct (Z64.ak H0.2.2) (bs (fun _=>rfl) (fun c13=>?_))
  refine ct (Z65.ak trivial) (bs (fun c14=>?_) (fun _=>rfl))
  exact fz
 ·refine ct (Z64.ak H0.2.1) (bs (fun _=>rfl) (fun c15=>?_))
  refine ct (Z59.ak trivial) (bs (fun _=>rfl) (fun c16=>?_))
  refine ct (Z64.ak H0.2.2) (bs (fun _=>rfl) (fun c17=>?_))
  refine ct (Z65.ak trivial) (bs (fun c18=>?_) (fun _=>rfl))
  exact fz
def af:cz 329 aT:=W1 92 F mix aC aY (kC Z59.af Z64.af Z65.af) Tryz.func329
def tr {a0:aF}(h:md a0=true):(1<=a0.bJ/\a0.bJ<=3)/\0<=a0.cT/\a0.cT<=a0.cL/\a0.cL<=100000/\0<=a0.cE/\a0.cE<=12:=by
 have key:∀x y z:Int,Z59.md x y z=true->y<=x/\x<=z:=fun x y z h=>by simpa [Z59.md] using h
 unfold md at h
 simp only [CP,Bool.not_not,Bool.and_eq_true] at h
 obtain ⟨_,_,_,_,h5,h6,h7,_,h8,_⟩:=h
 have:=key _ _ _ h5
 have:=key _ _ _ h6
 have:=key _ _ _ h7
 have:=key _ _ _ h8
 omega
end Z66
namespace Z67
def F (x0:dz):aI:=(bY (fJ (((2:Int)+x0.aO.length)*8)) (ret (([[L.int x0.cO],[L.int x0.aO.length]]++x0.aO):aB)))
def md (a0:aR):List Int:=([a0.cO,a0.aO.length]++a0.aO)
def gd (a0:aR):Prop:=(aR.Sm (2^21) a0)
def R:=RR gd md
def ak {a0}(h:gd a0):R (aR.r a0)=some ((md a0).map bt):=cV h
def aT:=CN [.agg jG] (oL 3) RT.dec R
def aY (a0)(H0:gd a0):F (aR.r a0)=ret ((md a0).map bt):=by
 unfold F md
 simp only [SS]
 exact aj (have:=(H0).1;lm) fz
def af:cz 333 aT:=W1 12 F mix aC aY .nil Tryz.func333
def len (a0:aR):(md a0).length=2+a0.aO.length:=by simp [md];omega
end Z67
namespace Z68
def F (x0 x1:Int):aI:=(call (Z59.R (x1,1,1000000000000)) fun v1=>(cond (!v1) (ret (0:Int)) (cond (x1=0) none (cond (x1=0) none (ret ((Int.tmod (i64.wrap ((Int.tmod x0 x1)+x1)) x1)))))))
def md (a0 a1:Int):Int:=(cond (!(Z59.md a1 1 1000000000000)) (0:Int) ((Int.tmod (i64.wrap ((Int.tmod a0 a1)+a1)) a1)))
def gd (a0 a1:Int):Prop:=True
def R:=cm gd md
def ak {a0 a1}(h:gd a0 a1):R (a0,a1)=some (md a0 a1):=cq h
def aT:=CN [pI,pI] oI RT.dec R
def aY (a0)(a1)(hg:gd a0 a1):F a0 a1=ret (md a0 a1):=by
 refine ct (Z59.ak trivial) (bs (fun _=>rfl) (fun c1=>?_))
 have Dc1:=c1
 simp [Z59.md] at Dc1
 refine cW df (cW df ?_)
 exact fz
def af:cz 342 aT:=W2 15 F mix aC aY (cD Z59.af) Tryz.func342
end Z68
namespace Z69
inductive Pt where
 | p0 (a:aB) (b c:Int)
def cu:Pt->List V
 | .p0 a b c=>[.sl none 3 a,.int .i64 b,.int .i64 c]
def step (J:Pt->aI):Pt->aI
 | .p0 a b c=>(cond (c<(a.length:Int)) (m2 c (a.length:Int) (call (Z68.R ((kr a (toNat c)),2147483647)) fun v1=>J (.p0 a (Int.tmod (i64.wrap ((i64.wrap ((i64.wrap (b*1000003))+v1))+13)) 2147483647) (i64.wrap (c+1))))) (ret (b:Int)))
def start (J:Pt->aI)(x0:aB):aI:=J (.p0 x0 11 0)
def live:Nat->Live:=fK [(3,gj [0,3,4])]
def md (a0:List Int):Int:=(eJ (S:=Int) (β:=Int) (fun y1 s3=>(.inl (Int.tmod (i64.wrap ((i64.wrap ((i64.wrap (s3*1000003))+(Z68.md y1 2147483647)))+13)) 2147483647))) (fun s3=>s3) a0 11)
def gd (a0:List Int):Prop:=(bN (2^43) (fun y:Int=>True) a0)
def R:=RR gd md
def ak {a0}(h:gd a0):R (a0.map bt)=some (md a0):=cV h
def aT:=CN [pL 3] oI RT.dec R
def aY (a0)(H0:gd a0):∃n,start (iter step n) (a0.map bt)=ret (md a0):=by
 have Bh2:=bl H0
 refine ex_eq (fu (z:=0)) (eo fz ?_)
 refine cw (pt:=fun (i1:Nat) (s3:Int)=>Pt.p0 (a0.map bt) s3 (i1:Int)) (fun _ _=>True) (fun J i1 s3 h2 hih2=>?_) (fun s3 hih2=>?_) trivial
 ·simp only [step,SS]
  refine bp.yes dt (bp.yes aD ?_)
  refine bp.yes (aK h2) (cr (Z68.ak trivial) ?_)
  refine bp.inl trivial ?_
  rw [aH h2 Bh2]
 ·simp only [step,SS]
  refine dO dn (⟨0,?_⟩)
  exact fz
def af:cz 311 aT:=L1 22 (fun _=>3) cu (fun _=>[]) live step start mix aC aY (cD Z68.af) Tryz.func311
end Z69
namespace Z70
def F (x0:dz)(x1:Int):aI:=(call (Z67.R x0) fun v1=>(bY (fJ (((2:Int)+v1.length)*8)) (call (Z69.R ([[L.int 239],[L.int x1]]++v1)) fun v2=>ret v2)))
def md (a0:aR)(a1:Int):Int:=((Z69.md ([239,a1]++(Z67.md a0))))
def gd (a0:aR)(a1:Int):Prop:=(aR.Sm (2^21) a0)
def R:=cm gd md
def ak {a0 a1}(h:gd a0 a1):R ((aR.r a0),a1)=some (md a0 a1):=cq h
def aT:=CN [.agg jG,pI] oI RT.dec R
def aY (a0)(a1)(H0:gd a0 a1):F (aR.r a0) a1=ret (md a0 a1):=by
 refine ct (Z67.ak H0) (aj (have:=Z67.len a0;have:=(H0).1;lm) ?_)
 exact aU _ (rq (Z69.ak (a0:=([239,a1]++(Z67.md a0))) ⟨(have:=Z67.len a0;have:=(H0).1;om),fun _ _=>trivial⟩)) fz
def af:cz 330 aT:=W2 11 F mix aC aY (eP Z67.af Z69.af) Tryz.func330
end Z70
namespace Z71
def F (x0:dI):aI:=(call (Z67.R x0.bU) fun v1=>(bY (fJ (((8:Int)+v1.length)*8)) (call (Z67.R x0.bF) fun v2=>(bY (fJ (((([[L.int x0.bz],[L.int x0.cU],[L.int x0.bJ],[L.int x0.cT],[L.int x0.cL],[L.int x0.cE],[L.int x0.dG],[L.int x0.dY]]++v1).length)+v2.length)*8)) (bY (fJ ((((([[L.int x0.bz],[L.int x0.cU],[L.int x0.bJ],[L.int x0.cT],[L.int x0.cL],[L.int x0.cE],[L.int x0.dG],[L.int x0.dY]]++v1)++v2).length)+1)*8)) (call (Z67.R x0.bC) fun v3=>(bY (fJ (((((([[L.int x0.bz],[L.int x0.cU],[L.int x0.bJ],[L.int x0.cT],[L.int x0.cL],[L.int x0.cE],[L.int x0.dG],[L.int x0.dY]]++v1)++v2)++[[L.int x0.dM]]).length)+v3.length)*8)) (cond x0.bD (bY (fJ ((((((([[L.int x0.bz],[L.int x0.cU],[L.int x0.bJ],[L.int x0.cT],[L.int x0.cL],[L.int x0.cE],[L.int x0.dG],[L.int x0.dY]]++v1)++v2)++[[L.int x0.dM]])++v3).length)+1)*8)) (ret (((((([[L.int x0.bz],[L.int x0.cU],[L.int x0.bJ],[L.int x0.cT],[L.int x0.cL],[L.int x0.cE],[L.int x0.dG],[L.int x0.dY]]++v1)++v2)++[[L.int x0.dM]])++v3)++[[L.int 1]]):aB))) (bY (fJ ((((((([[L.int x0.bz],[L.int x0.cU],[L.int x0.bJ],[L.int x0.cT],[L.int x0.cL],[L.int x0.cE],[L.int x0.dG],[L.int x0.dY]]++v1)++v2)++[[L.int x0.dM]])++v3).length)+1)*8)) (ret (((((([[L.int x0.bz],[L.int x0.cU],[L.int x0.bJ],[L.int x0.cT],[L.int x0.cL],[L.int x0.cE],[L.int x0.dG],[L.int x0.dY]]++v1)++v2)++[[L.int x0.dM]])++v3)++[[L.int 0]]):aB)))))))))))
def md (a0:aF):List Int:=(cond a0.bD ((((([a0.bz,a0.cU,a0.bJ,a0.cT,a0.cL,a0.cE,a0.dG,a0.dY]++(Z67.md a0.bU))++(Z67.md a0.bF))++[a0.dM])++(Z67.md a0.bC))++[1]) ((((([a0.bz,a0.cU,a0.bJ,a0.cT,a0.cL,a0.cE,a0.dG,a0.dY]++(Z67.md a0.bU))++(Z67.md a0.bF))++[a0.dM])++(Z67.md a0.bC))++[0]))
def gd (a0:aF):Prop:=(aF.Sm (2^21) a0)
def R:=RR gd md
def ak {a0}(h:gd a0):R (aF.r a0)=some ((md a0).map bt):=cV h
def aT:=CN [.agg gH] (oL 3) RT.dec R
def aY (a0)(H0:gd a0):F (aF.r a0)=ret ((md a0).map bt):=by
 refine ct (Z67.ak H0.1) (aj (have:=Z67.len a0.bU;have:=(H0.1).1;lm) ?_)
 refine ct (Z67.ak H0.2.1) (aj (have:=Z67.len a0.bU;have:=(H0.1).1;have:=Z67.len a0.bF;have:=(H0.2.1).1;lm) ?_)
 refine aj (have:=Z67.len a0.bU;have:=(H0.1).1;have:=Z67.len a0.bF;have:=(H0.2.1).1;lm) (ct (Z67.ak H0.2.2) ?_)
 exact aj (have:=Z67.len a0.bU;have:=(H0.1).1;have:=Z67.len a0.bF;have:=(H0.2.1).1;have:=Z67.len a0.bC;have:=(H0.2.2).1;lm) (ec (fun b:List Int=>ret ((b.map bt):aB)) (fun c1=>aj (have:=Z67.len a0.bU;have:=(H0.1).1;have:=Z67.len a0.bF;have:=(H0.2.1).1;have:=Z67.len a0.bC;have:=(H0.2.2).1;lm) fz) (fun c1=>aj (have:=Z67.len a0.bU;have:=(H0.1).1;have:=Z67.len a0.bF;have:=(H0.2.1).1;have:=Z67.len a0.bC;have:=(H0.2.2).1;lm) fz))
def af:cz 292 aT:=W1 49 F mix aC aY (cD Z67.af) Tryz.func292
def len (a0:aF):(md a0).length=16+a0.bU.aO.length+a0.bF.aO.length+a0.bC.aO.length:=by unfold md;cases a0.bD<;>simp [Z67.md]<;>omega
def BZ {k l:aR}{x y:List Int}(h:Z67.md k++x=Z67.md l++y):k=l/\x=y:=by
 obtain ⟨kl,kn⟩:=k
 obtain ⟨ll,ln⟩:=l
 simp only [Z67.md,List.cons_append,List.nil_append,List.cons.injEq] at h
 obtain ⟨h1,h2,h3⟩:=h
 obtain ⟨h4,h5⟩:=List.append_inj h3 (by omega)
 exact ⟨by rw [h1,h4],h5⟩
def uN (a:aF):md a=a.bz::a.cU::a.bJ::a.cT::a.cL::a.cE::a.dG::a.dY::(Z67.md a.bU++(Z67.md a.bF++(a.dM::(Z67.md a.bC++[bif a.bD then 1 else 0])))):=by
 unfold md
 cases a.bD<;>simp only [aZ,aX,List.append_assoc,List.cons_append,List.nil_append]
def inj {a b:aF}(h:md a=md b):a=b:=by
 rw [uN,uN] at h
 simp only [List.cons.injEq] at h
 obtain ⟨g1,g2,g3,g4,g5,g6,g7,g8,g9⟩:=h
 obtain ⟨k1,g9⟩:=BZ g9
 obtain ⟨k2,g9⟩:=BZ g9
 simp only [List.cons.injEq] at g9
 obtain ⟨k3,g9⟩:=g9
 obtain ⟨k4,g9⟩:=BZ g9
 have k5:a.bD=b.bD:=by
  simp only [List.cons.injEq,and_true] at g9
  revert g9
  cases a.bD<;>cases b.bD<;>simp
 cases a;cases b
 simp only [aF.mk.injEq]
 exact ⟨g1,g2,g3,g4,g5,g6,g7,g8,k1,k2,k3,k4,k5⟩
end Z71
namespace Z72
def F (x0:Int)(x1:aB):aI:=(bY (fJ (((1:Int)+x1.length)*8)) (bY (fJ (((([[L.int x0]]++x1).length)+1)*8)) (call (Z69.R (([[L.int x0]]++x1)++[[L.int x0]])) fun v1=>ret v1)))
def md (a0:Int)(a1:List Int):Int:=((Z69.md (([a0]++a1)++[a0])))
def gd (a0:Int)(a1:List Int):Prop:=(bN (2^40) (fun y:Int=>True) a1)
def R:=cm gd md
def ak {a0 a1}(h:gd a0 a1):R (a0,(a1.map bt))=some (md a0 a1):=cq h
def aT:=CN [pI,pL 3] oI RT.dec R
def aY (a0)(a1)(H1:gd a0 a1):F a0 (a1.map bt)=ret (md a0 a1):=by
 refine aj (have:=(H1).1;lm) (aj (have:=(H1).1;lm) ?_)
 exact aU _ (rq (Z69.ak (a0:=(([a0]++a1)++[a0])) ⟨(have:=(H1).1;om),fun _ _=>trivial⟩)) fz
def af:cz 406 aT:=W2 13 F mix aC aY (cD Z69.af) Tryz.func406
end Z72
namespace Z73
def F (x0:Int)(x1:aB):aI:=(bY (fJ (((1:Int)+x1.length)*8)) (call (Z72.R (x0,([[L.int 223]]++x1))) fun v1=>ret v1))
def md (a0:Int)(a1:List Int):Int:=((Z72.md a0 ([223]++a1)))
def gd (a0:Int)(a1:List Int):Prop:=(bN (2^39) (fun y:Int=>True) a1)
def R:=cm gd md
def ak {a0 a1}(h:gd a0 a1):R (a0,(a1.map bt))=some (md a0 a1):=cq h
def aT:=CN [pI,pL 3] oI RT.dec R
def aY (a0)(a1)(H1:gd a0 a1):F a0 (a1.map bt)=ret (md a0 a1):=by
 refine aj (have:=(H1).1;lm) (aU _ (rq (Z72.ak (a1:=([223]++a1)) ⟨(have:=(H1).1;om),fun _ _=>trivial⟩)) ?_)
 exact fz
def af:cz 402 aT:=W2 10 F mix aC aY (cD Z72.af) Tryz.func402
end Z73
namespace Z74
def F (x0:bn)(x1:aB):aI:=(call (Z59.R (x0.iD,1,99)) fun v1=>(cond v1 (call (Z73.R (x0.iD,x1)) fun v2=>ret ((x0.ko==v2))) (ret false)))
def md (a0:bn)(a1:List Int):Bool:=(cond (Z59.md a0.iD 1 99) ((a0.ko==(Z73.md a0.iD a1))) false)
def gd (a0:bn)(a1:List Int):Prop:=(bN (2^38) (fun y:Int=>True) a1)
def R:=cm gd md
def ak {a0 a1}(h:gd a0 a1):R (a0,(a1.map bt))=some (md a0 a1):=cq h
def aT:=CN [.agg Aj,pL 3] oB RT.dec R
def aY (a0)(a1)(H1:gd a0 a1):F a0 (a1.map bt)=ret (md a0 a1):=by
 refine ct (Z59.ak trivial) (bs (fun c1=>?_) (fun _=>rfl))
 exact ct (Z73.ak (H1.mono (by decide) (fun x hx=>trivial))) fz
def af:cz 385 aT:=W2 17 F mix aC aY (eP Z59.af Z73.af) Tryz.func385
end Z74
namespace Z75
inductive Pt where
 | p0 (a b:aB) (c d:Int) (e:dz)
 | p1 (a b:aB) (c d e:Int) (f:dz)
def pid:Pt->Nat
 | .p0 ..=>3
 | .p1 ..=>6
def cu:Pt->List V
 | .p0 a b c d e=>[.sl none 3 a,.sl none 227 b,.cC 0 0,.int .i64 c,.int .i64 d]
 | .p1 a b c d e f=>[.sl none 3 a,.sl none 227 b,.cC 0 0,.int .i64 c,.int .i64 d,.int .i64 e]
def cR:Pt->List aW
 | .p0 a b c d e=>[.box [.sl none 3 e.aO,.int .i64 e.cO]]
 | .p1 a b c d e f=>[.box [.sl none 3 f.aO,.int .i64 f.cO]]
def step (J:Pt->aI):Pt->aI
 | .p0 a b c d e=>(cond (d<(e.aO.length:Int)) (J (.p1 a b c d 0 e)) (ret (c:Int)))
 | .p1 a b c d e f=>(cond (e<(b.length:Int)) (m2 e (b.length:Int) (m2 d (f.aO.length:Int) (cond ((bn.at b (toNat e)).iD==(kr f.aO (toNat d))) (m2 e (b.length:Int) (call (Z74.R ((bn.at b (toNat e)),a)) fun v1=>(cond v1 (J (.p0 a b (i64.wrap (c+1)) (i64.wrap (d+1)) f)) (J (.p1 a b c d (i64.wrap (e+1)) f))))) (J (.p1 a b c d (i64.wrap (e+1)) f))))) (J (.p0 a b c (i64.wrap (d+1)) f)))
def start (J:Pt->aI)(x0:dz)(x1 x2:aB):aI:=J (.p0 x1 x2 0 0 x0)
def live:Nat->Live:=fK [(3,gj [1,2,3,7,8]),(6,gj [1,2,3,7,8,9])]
def md (a0:aR)(a1:List Int)(a2:List bn):Int:=(eJ (S:=Int) (β:=Int) (fun y1 s3=>(eJ (S:=Unit) (β:=(Int⊕Int)) (fun y5 s7=>(cond (y5.iD==y1) (cond (Z74.md y5 a1) (.inr (.inl (i64.wrap (s3+1)))) (.inl ())) (.inl ()))) (fun s7=>(.inl s3)) a2 ())) (fun s3=>s3) a0.aO 0)
def gd (a0:aR)(a1:List Int)(a2:List bn):Prop:=(aR.Sm (2^21) a0)/\(bN (2^38) (fun y:Int=>True) a1)/\(bN (2^21) (fun y:bn=>bn.Sm (2^21) y) a2)
def R:=lp gd md
def ak {a0 a1 a2}(h:gd a0 a1 a2):R ((aR.r a0),(a1.map bt),(a2.map bn.row))=some (md a0 a1 a2):=kZ h
def aT:=CN [.agg jG,pL 3,pL 227] oI RT.dec R
def aY (a0)(a1)(a2)(hg:gd a0 a1 a2):∃n,start (iter step n) (aR.r a0) (a1.map bt) (a2.map bn.row)=ret (md a0 a1 a2):=by
 obtain ⟨H0,H1,H2⟩:=hg
 have Bh2:=bl H0
 refine ex_eq (fu (z:=0)) (eo fz ?_)
 refine vn (pt:=fun (i1:Nat) (s3:Int)=>Pt.p0 (a1.map bt) (a2.map bn.row) s3 (i1:Int) (aR.r a0)) (fun _ _=>True) (fun i1 s3 h2 hih2 K4 hK4 rK4=>?_) (fun s3 hih2=>?_) trivial
 ·simp only [step,SS]
  refine dW dt ?_
  have Bh6:=bl H2
  refine ex_eq (fu (z:=bn.zero)) (eo fz ?_)
  refine vn (pt:=fun (i5:Nat) (s7:Unit)=>Pt.p1 (a1.map bt) (a2.map bn.row) s3 (i1:Int) (i5:Int) (aR.r a0)) (fun _ _=>True) (fun i5 s7 h6 hih6 K8 hK8 rK8=>?_) (fun s7 hih6=>?_) trivial
  ·simp only [step,SS]
   refine dW dt (dW aD ?_)
   refine dW (aK h6) (dW dt ?_)
   refine dW dt (iK K8 (fun c9=>?_) (fun c9=>?_))
   ·refine dW aD (dW (aK h6) ?_)
    refine cx (Z74.ak H1) (iK K8 (fun c10=>?_) (fun c10=>?_))
    ·rw [rK8]
     rw [aH h2 Bh2]
     exact hK4 _ trivial
    ·rw [aH h6 Bh6]
     exact hK8 _ trivial
   ·rw [aH h6 Bh6]
    exact hK8 _ trivial
  ·simp only [step,SS]
   refine dO dn ?_
   rw [aH h2 Bh2]
   exact hK4 _ trivial
 ·simp only [step,SS]
  refine dO dn (⟨0,?_⟩)
  exact fz
def af:cz 354 aT:=L3 45 pid cu cR live step start mix aC aY (cD Z74.af) Tryz.func354
end Z75
namespace Z76
def F (x0:dz)(x1 x2:aB):aI:=(call (Z64.R x0) fun v1=>(cond v1 (call (Z75.R (x0,x1,x2)) fun v2=>ret ((decide (v2>=x0.cO)))) (ret false)))
def md (a0:aR)(a1:List Int)(a2:List bn):Bool:=(cond (Z64.md a0) ((decide ((Z75.md a0 a1 a2)>=a0.cO))) false)
def gd (a0:aR)(a1:List Int)(a2:List bn):Prop:=(aR.Sm (2^21) a0)/\(bN (2^38) (fun y:Int=>True) a1)/\(bN (2^21) (fun y:bn=>bn.Sm (2^21) y) a2)
def R:=lp gd md
def ak {a0 a1 a2}(h:gd a0 a1 a2):R ((aR.r a0),(a1.map bt),(a2.map bn.row))=some (md a0 a1 a2):=kZ h
def aT:=CN [.agg jG,pL 3,pL 227] oB RT.dec R
def aY (a0)(a1)(a2)(hg:gd a0 a1 a2):F (aR.r a0) (a1.map bt) (a2.map bn.row)=ret (md a0 a1 a2):=by
 obtain ⟨H0,H1,H2⟩:=hg
 refine ct (Z64.ak H0) (bs (fun c1=>?_) (fun _=>rfl))
 exact ct (Z75.ak ⟨H0,H1,H2⟩) fz
def af:cz 331 aT:=W3 18 F mix aC aY (eP Z64.af Z75.af) Tryz.func331
end Z76
namespace Z77
def F (x0:bf):aI:=(call (Z66.R x0.an) fun v1=>(cond v1 (cond (x0.an.cU==0) (cond (x0.an.bJ==1) (cond (!x0.an.bD) (call (Z70.R (x0.an.bU,x0.an.dY)) fun v2=>(cond (x0.an.bz==v2) (call (Z71.R x0.an) fun v3=>(call (Z76.R (x0.an.bU,v3,x0.cP)) fun v4=>ret v4)) (ret false))) (ret false)) (ret false)) (ret false)) (ret false)))
def md (a0:aa):Bool:=(cond (Z66.md a0.an) (cond (a0.an.cU==0) (cond (a0.an.bJ==1) (cond (!a0.an.bD) (cond (a0.an.bz==(Z70.md a0.an.bU a0.an.dY)) ((Z76.md a0.an.bU (Z71.md a0.an) a0.cP)) false) false) false) false) false)
def gd (a0:aa):Prop:=(aa.Sm (2^21) a0)
def R:=RR gd md
def ak {a0}(h:gd a0):R (aa.r a0)=some (md a0):=cV h
def aT:=CN [.agg lU] oB RT.dec R
def aY (a0)(H0:gd a0):F (aa.r a0)=ret (md a0):=by
 refine ct (Z66.ak H0.1) (bs (fun c1=>?_) (fun _=>rfl))
 refine bs (fun c2=>?_) (fun _=>rfl)
 refine bs (fun c3=>?_) (fun _=>rfl)
 refine bs (fun c4=>?_) (fun _=>rfl)
 refine ct (Z70.ak H0.1.1) (bs (fun c5=>?_) (fun _=>rfl))
 refine ct (Z71.ak H0.1) (ct (Z76.ak ⟨H0.1.1,⟨(have:=Z71.len a0.an;have:=(H0.1.1).1;have:=(H0.1.2.1).1;have:=(H0.1.2.2).1;om),fun _ _=>trivial⟩,H0.2⟩) ?_)
 exact fz
def af:cz 289 aT:=W1 42 F mix aC aY (kE Z66.af Z70.af Z71.af Z76.af) Tryz.func289
end Z77
namespace Z78
def F (x0:dI):aI:=(call (Z71.R x0) fun v1=>(bY (fJ (((1:Int)+v1.length)*8)) (call (Z69.R ([[L.int 233]]++v1)) fun v2=>ret v2)))
def md (a0:aF):Int:=((Z69.md ([233]++(Z71.md a0))))
def gd (a0:aF):Prop:=(aF.Sm (2^21) a0)
def R:=RR gd md
def ak {a0}(h:gd a0):R (aF.r a0)=some (md a0):=cV h
def aT:=CN [.agg gH] oI RT.dec R
def aY (a0)(H0:gd a0):F (aF.r a0)=ret (md a0):=by
 refine ct (Z71.ak H0) (aj (have:=Z71.len a0;have:=(H0.1).1;have:=(H0.2.1).1;have:=(H0.2.2).1;lm) ?_)
 exact aU _ (rq (Z69.ak (a0:=([233]++(Z71.md a0))) ⟨(have:=Z71.len a0;have:=(H0.1).1;have:=(H0.2.1).1;have:=(H0.2.2).1;om),fun _ _=>trivial⟩)) fz
def af:cz 355 aT:=W1 8 F mix aC aY (eP Z71.af Z69.af) Tryz.func355
end Z78
namespace Z79
def F (x0 x1:dI):aI:=(cond x0.bD (ret (4:Int)) (cond x1.bD (ret (6:Int)) (ret (1:Int))))
def md (a0 a1:aF):Int:=(cond a0.bD (4:Int) (cond a1.bD (6:Int) (1:Int)))
def gd (a0 a1:aF):Prop:=True
def R:=cm gd md
def ak {a0 a1}(h:gd a0 a1):R ((aF.r a0),(aF.r a1))=some (md a0 a1):=cq h
def aT:=CN [.agg gH,.agg gH] oI RT.dec R
def aY (a0)(a1)(hg:gd a0 a1):F (aF.r a0) (aF.r a1)=ret (md a0 a1):=by
 refine bs (fun _=>rfl) (fun c1=>?_)
 refine bs (fun _=>rfl) (fun _=>rfl)
def af:cz 356 aT:=W2 11 F mix aC aY .nil Tryz.func356
end Z79
namespace Z80
inductive Pt where
 | p0 (a b:aB) (c:Int)
def cu:Pt->List V
 | .p0 a b c=>[.sl none 3 a,.sl none 3 b,.int .i64 c]
def step (J:Pt->aI):Pt->aI
 | .p0 a b c=>(cond (c<(a.length:Int)) (m2 c (a.length:Int) (m2 c (b.length:Int) (cond ((kr a (toNat c)) != (kr b (toNat c))) dx (J (.p0 a b (i64.wrap (c+1))))))) gA)
def start (J:Pt->aI)(x0 x1:aB):aI:=(cond (x0.length != (x1.length:Int)) (ret false) (J (.p0 x0 x1 0)))
def live:Nat->Live:=fK [(4,gj [0,1,5])]
def md (a0 a1:List Int):Bool:=(bif (a0.length != (a1.length:Int)) then false else (eX (S:=Unit) (β:=Bool) (fun i2 s4=>(cond ((a0.getD i2 0) != (a1.getD i2 0)) (.inr false) (.inl ()))) (fun s4=>true) a0.length 0 ()))
def gd (a0 a1:List Int):Prop:=(bN (2^38) (fun y:Int=>True) a0)/\(bN (2^38) (fun y:Int=>True) a1)
def R:=cm gd md
def ak {a0 a1}(h:gd a0 a1):R ((a0.map bt),(a1.map bt))=some (md a0 a1):=cq h
def aT:=CN [pL 3,pL 3] oB RT.dec R
def aY (a0)(a1)(hg:gd a0 a1):∃n,start (iter step n) (a0.map bt) (a1.map bt)=ret (md a0 a1):=by
 obtain ⟨H0,H1⟩:=hg
 unfold start md
 simp only [SS]
 refine iK ret (fun _=>⟨0,rfl⟩) (fun c1=>?_)
 have dc1:=c1
 simp only [DC] at dc1
 have Bh3:=bl H0
 refine eo fz (cw (pt:=fun (i2:Nat) (s4:Unit)=>Pt.p0 (a0.map bt) (a1.map bt) (i2:Int)) (fun _ _=>True) (fun J i2 s4 h3 hih3=>?_) (fun s4 hih3=>?_) trivial)
 ·simp only [step,SS]
  refine bp.yes dt (bp.yes aD ?_)
  refine bp.yes (aK h3) (bp.yes aD ?_)
  refine bp.yes dt (bp.bif (fun _=>bp.inr rfl) (fun c5=>?_))
  refine bp.inl trivial ?_
  rw [aH h3 Bh3]
 ·simp only [step,SS]
  refine dO dn (⟨0,?_⟩)
  exact fz
def af:cz 291 aT:=L2 26 (fun _=>4) cu (fun _=>[]) live step start mix aC aY .nil Tryz.func291
def md_eq (a0 a1:List Int):md a0 a1=eu a0 a1:=by
 refine lM (0) (fun i s h h2=>?_) (fun s=>rfl)
 simp only [bne,gf,bool_beq,fM]
 cases eu _ _<;>rfl
end Z80
namespace Z81
def F (x0 x1:dz):aI:=(cond (x0.cO==x1.cO) (call (Z80.R (x0.aO,x1.aO)) fun v1=>ret v1) (ret false))
def md (a0 a1:aR):Bool:=(cond (a0.cO==a1.cO) ((Z80.md a0.aO a1.aO)) false)
def gd (a0 a1:aR):Prop:=(aR.Sm (2^21) a0)/\(aR.Sm (2^21) a1)
def R:=cm gd md
def ak {a0 a1}(h:gd a0 a1):R ((aR.r a0),(aR.r a1))=some (md a0 a1):=cq h
def aT:=CN [.agg jG,.agg jG] oB RT.dec R
def aY (a0)(a1)(hg:gd a0 a1):F (aR.r a0) (aR.r a1)=ret (md a0 a1):=by
 obtain ⟨H0,H1⟩:=hg
 refine bs (fun c1=>?_) (fun _=>rfl)
 exact ct (Z80.ak ⟨(H0.mono (by decide) (fun x hx=>trivial)),(H1.mono (by decide) (fun x hx=>trivial))⟩) fz
def af:cz 386 aT:=W2 17 F mix aC aY (cD Z80.af) Tryz.func386
def md_eq (a0 a1:aR):md a0 a1=eu a0 a1:=by
 unfold md
 cases a0;cases a1
 rw [Bool.eq_iff_iff]
 simp [dm,fM,aR.mk.injEq,Z80.md_eq]
 try (constructor<;>(intro h;simp_all))
end Z81
namespace Z82
def F (x0 x1:dI):aI:=(cond (x0.cE==x1.cE) (ret ((x0.dG==x1.dG))) (ret false))
def md (a0 a1:aF):Bool:=(cond (a0.cE==a1.cE) ((a0.dG==a1.dG)) false)
def gd (a0 a1:aF):Prop:=True
def R:=cm gd md
def ak {a0 a1}(h:gd a0 a1):R ((aF.r a0),(aF.r a1))=some (md a0 a1):=cq h
def aT:=CN [.agg gH,.agg gH] oB RT.dec R
def aY (a0)(a1)(hg:gd a0 a1):F (aF.r a0) (aF.r a1)=ret (md a0 a1):=by
 refine bs (fun c1=>?_) (fun _=>rfl)
 exact fz
def af:cz 387 aT:=W2 17 F mix aC aY .nil Tryz.func387
end Z82
namespace Z83
def F (x0 x1:dI):aI:=(cond x0.bD (ret (4:Int)) (call (Z65.R x0.bF) fun v1=>(cond v1 (ret (5:Int)) (cond (x1.cT<(i64.wrap (x0.cL+x0.dM))) (ret (5:Int)) (cond x1.bD (ret (6:Int)) (call (Z81.R (x1.bU,x0.bF)) fun v2=>(cond (!v2) (ret (6:Int)) (call (Z82.R (x1,x0)) fun v3=>(cond (!v3) (ret (6:Int)) (ret (1:Int)))))))))))
def md (a0 a1:aF):Int:=(cond a0.bD (4:Int) (cond (Z65.md a0.bF) (5:Int) (cond (a1.cT<(i64.wrap (a0.cL+a0.dM))) (5:Int) (cond a1.bD (6:Int) (cond (!(Z81.md a1.bU a0.bF)) (6:Int) (cond (!(Z82.md a1 a0)) (6:Int) (1:Int)))))))
def gd (a0 a1:aF):Prop:=(aF.Sm (2^21) a0)/\(aF.Sm (2^21) a1)
def R:=cm gd md
def ak {a0 a1}(h:gd a0 a1):R ((aF.r a0),(aF.r a1))=some (md a0 a1):=cq h
def aT:=CN [.agg gH,.agg gH] oI RT.dec R
def aY (a0)(a1)(hg:gd a0 a1):F (aF.r a0) (aF.r a1)=ret (md a0 a1):=by
 obtain ⟨H0,H1⟩:=hg
 refine bs (fun _=>rfl) (fun c1=>?_)
 refine ct (Z65.ak trivial) (bs (fun _=>rfl) (fun c2=>?_))
 refine bs (fun _=>rfl) (fun c3=>?_)
 refine bs (fun _=>rfl) (fun c4=>?_)
 refine ct (Z81.ak ⟨H1.1,H0.2.1⟩) (bs (fun _=>rfl) (fun c5=>?_))
 refine ct (Z82.ak trivial) (bs (fun _=>rfl) (fun _=>rfl))
def af:cz 357 aT:=W2 39 F mix aC aY (kC Z65.af Z81.af Z82.af) Tryz.func357
end Z83
namespace Z84
def F (x0 x1:dI):aI:=(call (Z65.R x0.bC) fun v1=>(cond v1 (ret (5:Int)) (cond (x1.bD==x0.bD) (ret (6:Int)) (call (Z82.R (x1,x0)) fun v2=>(cond (!v2) (ret (6:Int)) (call (Z81.R (x1.bC,x0.bC)) fun v3=>(cond (!v3) (ret (6:Int)) (call (Z81.R (x1.bF,x0.bF)) fun v4=>(cond (!v4) (ret (6:Int)) (cond (x1.dM != x0.dM) (ret (6:Int)) (cond x1.bD (call (Z81.R (x1.bU,x0.bU)) fun v5=>(cond (!v5) (ret (6:Int)) (ret (1:Int)))) (ret (1:Int)))))))))))))
def md (a0 a1:aF):Int:=(cond (Z65.md a0.bC) (5:Int) (cond (a1.bD==a0.bD) (6:Int) (cond (!(Z82.md a1 a0)) (6:Int) (cond (!(Z81.md a1.bC a0.bC)) (6:Int) (cond (!(Z81.md a1.bF a0.bF)) (6:Int) (cond (a1.dM != a0.dM) (6:Int) (cond a1.bD (cond (!(Z81.md a1.bU a0.bU)) (6:Int) (1:Int)) (1:Int))))))))
def gd (a0 a1:aF):Prop:=(aF.Sm (2^21) a0)/\(aF.Sm (2^21) a1)
def R:=cm gd md
def ak {a0 a1}(h:gd a0 a1):R ((aF.r a0),(aF.r a1))=some (md a0 a1):=cq h
def aT:=CN [.agg gH,.agg gH] oI RT.dec R
def aY (a0)(a1)(hg:gd a0 a1):F (aF.r a0) (aF.r a1)=ret (md a0 a1):=by
 obtain ⟨H0,H1⟩:=hg
 refine ct (Z65.ak trivial) (bs (fun _=>rfl) (fun c1=>?_))
 refine bs (fun _=>rfl) (fun c2=>?_)
 refine ct (Z82.ak trivial) (bs (fun _=>rfl) (fun c3=>?_))
 refine ct (Z81.ak ⟨H1.2.2,H0.2.2⟩) (bs (fun _=>rfl) (fun c4=>?_))
 refine ct (Z81.ak ⟨H1.2.1,H0.2.1⟩) (bs (fun _=>rfl) (fun c5=>?_))
 refine bs (fun _=>rfl) (fun c6=>?_)
 refine bs (fun c7=>?_) (fun _=>rfl)
 refine ct (Z81.ak ⟨H1.1,H0.1⟩) (bs (fun _=>rfl) (fun _=>rfl))
def af:cz 358 aT:=W2 55 F mix aC aY (kC Z65.af Z82.af Z81.af) Tryz.func358
end Z84
namespace Z85
def F (x0:dI)(x1:bf):aI:=(call (Z66.R x0) fun v1=>(cond (!v1) (ret (2:Int)) (call (Z66.R x1.an) fun v2=>(cond (!v2) (ret (2:Int)) (cond (x1.an.bz != x0.bz) (ret (3:Int)) (cond (x1.an.cU != (i64.wrap (x0.cU+1))) (ret (3:Int)) (call (Z78.R x0) fun v3=>(cond (x1.an.dY != v3) (ret (3:Int)) (cond (x1.an.cT<x0.cT) (ret (3:Int)) (call (Z79.R (x0,x1.an)) fun v4=>(cond (x1.an.bJ==2) (call (Z83.R (x0,x1.an)) fun v5=>(cond (v5==1) (call (Z71.R x1.an) fun v6=>(call (Z76.R (x0.bF,v6,x1.cP)) fun v7=>(cond (!v7) (ret (7:Int)) (ret v5)))) (ret v5))) (cond (x1.an.bJ==3) (call (Z84.R (x0,x1.an)) fun v8=>(cond (v8==1) (call (Z71.R x1.an) fun v9=>(call (Z76.R (x0.bC,v9,x1.cP)) fun v10=>(cond (!v10) (ret (7:Int)) (ret v8)))) (ret v8))) (cond (v4==1) (call (Z71.R x1.an) fun v11=>(call (Z76.R (x0.bU,v11,x1.cP)) fun v12=>(cond (!v12) (ret (7:Int)) (ret v4)))) (ret v4))))))))))))))
def md (a0:aF)(a1:aa):Int:=(cond (!(Z66.md a0)) (2:Int) (cond (!(Z66.md a1.an)) (2:Int) (cond (a1.an.bz != a0.bz) (3:Int) (cond (a1.an.cU != (i64.wrap (a0.cU+1))) (3:Int) (cond (a1.an.dY != (Z78.md a0)) (3:Int) (cond (a1.an.cT<a0.cT) (3:Int) (cond (a1.an.bJ==2) (cond ((Z83.md a0 a1.an)==1) (cond (!(Z76.md a0.bF (Z71.md a1.an) a1.cP)) (7:Int) ((Z83.md a0 a1.an))) ((Z83.md a0 a1.an))) (cond (a1.an.bJ==3) (cond ((Z84.md a0 a1.an)==1) (cond (!(Z76.md a0.bC (Z71.md a1.an) a1.cP)) (7:Int) ((Z84.md a0 a1.an))) ((Z84.md a0 a1.an))) (cond ((Z79.md a0 a1.an)==1) (cond (!(Z76.md a0.bU (Z71.md a1.an) a1.cP)) (7:Int) ((Z79.md a0 a1.an))) ((Z79.md a0 a1.an)))))))))))
def gd (a0:aF)(a1:aa):Prop:=(aF.Sm (2^21) a0)/\(aa.Sm (2^21) a1)
def R:=cm gd md
def ak {a0 a1}(h:gd a0 a1):R ((aF.r a0),(aa.r a1))=some (md a0 a1):=cq h
def aT:=CN [.agg gH,.agg lU] oI RT.dec R
def aY (a0)(a1)(hg:gd a0 a1):F (aF.r a0) (aa.r a1)=ret (md a0 a1):=by
 obtain ⟨H0,H1⟩:=hg
 refine ct (Z66.ak H0) (bs (fun _=>rfl) (fun c1=>?_))
 refine ct (Z66.ak H1.1) (bs (fun _=>rfl) (fun c2=>?_))
 refine bs (fun _=>rfl) (fun c3=>?_)
 refine bs (fun _=>rfl) (fun c4=>?_)
 refine ct (Z78.ak H0) (bs (fun _=>rfl) (fun c5=>?_))
 refine bs (fun _=>rfl) (fun c6=>?_)
 refine ct (Z79.ak trivial) (bs (fun c7=>?_) (fun c7=>?_))
 ·refine ct (Z83.ak ⟨H0,H1.1⟩) (bs (fun c8=>?_) (fun c8=>fz))
  refine ct (Z71.ak H1.1) (ct (Z76.ak ⟨H0.2.1,⟨(have:=Z71.len a1.an;have:=(H1.1.1).1;have:=(H1.1.2.1).1;have:=(H1.1.2.2).1;om),fun _ _=>trivial⟩,H1.2⟩) ?_)
  refine bs (fun _=>rfl) (fun c9=>?_)
  exact fz
 ·refine bs (fun c10=>?_) (fun c10=>?_)
  ·refine ct (Z84.ak ⟨H0,H1.1⟩) (bs (fun c11=>?_) (fun c11=>fz))
   refine ct (Z71.ak H1.1) (ct (Z76.ak ⟨H0.2.2,⟨(have:=Z71.len a1.an;have:=(H1.1.1).1;have:=(H1.1.2.1).1;have:=(H1.1.2.2).1;om),fun _ _=>trivial⟩,H1.2⟩) ?_)
   refine bs (fun _=>rfl) (fun c12=>?_)
   exact fz
  ·refine bs (fun c13=>?_) (fun c13=>fz)
   refine ct (Z71.ak H1.1) (ct (Z76.ak ⟨H0.1,⟨(have:=Z71.len a1.an;have:=(H1.1.1).1;have:=(H1.1.2.1).1;have:=(H1.1.2.2).1;om),fun _ _=>trivial⟩,H1.2⟩) ?_)
   refine bs (fun _=>rfl) (fun c14=>?_)
   exact fz
def af:cz 332 aT:=W2 78 F mix aC aY (Ae Z66.af Z78.af Z79.af Z83.af Z71.af Z76.af Z84.af) Tryz.func332
end Z85
namespace Z86
def F (x0:dI)(x1:bf):aI:=(call (Z85.R (x0,x1)) fun v1=>ret ((v1==1)))
def md (a0:aF)(a1:aa):Bool:=(((Z85.md a0 a1)==1))
def gd (a0:aF)(a1:aa):Prop:=(aF.Sm (2^21) a0)/\(aa.Sm (2^21) a1)
def R:=cm gd md
def ak {a0 a1}(h:gd a0 a1):R ((aF.r a0),(aa.r a1))=some (md a0 a1):=cq h
def aT:=CN [.agg gH,.agg lU] oB RT.dec R
def aY (a0)(a1)(hg:gd a0 a1):F (aF.r a0) (aa.r a1)=ret (md a0 a1):=by
 obtain ⟨H0,H1⟩:=hg
 exact ct (Z85.ak ⟨H0,H1⟩) fz
def af:cz 290 aT:=W2 9 F mix aC aY (cD Z85.af) Tryz.func290
end Z86
namespace Z87
inductive Pt where
 | p0 (a:aB) (b:Int)
def cu:Pt->List V
 | .p0 a b=>[.sl none 178 a,.int .i64 b]
def step (J:Pt->aI):Pt->aI
 | .p0 a b=>(cond (b<(a.length:Int)) (cond (b==0) (bY ((0:Int)<(a.length:Int)) (call (Z77.R (bf.at a 0)) fun v1=>(cond (!v1) (ret (b:Int)) (cond (b>0) (bY ((0:Int)<=(i64.wrap (b - 1))) (bY ((i64.wrap (b - 1))<(a.length:Int)) (m2 b (a.length:Int) (call (Z86.R ((bf.at a (toNat (i64.wrap (b - 1)))).an,(bf.at a (toNat b)))) fun v2=>(cond (!v2) (ret (b:Int)) (J (.p0 a (i64.wrap (b+1))))))))) (J (.p0 a (i64.wrap (b+1)))))))) (cond (b>0) (bY ((0:Int)<=(i64.wrap (b - 1))) (bY ((i64.wrap (b - 1))<(a.length:Int)) (m2 b (a.length:Int) (call (Z86.R ((bf.at a (toNat (i64.wrap (b - 1)))).an,(bf.at a (toNat b)))) fun v3=>(cond (!v3) (ret (b:Int)) (J (.p0 a (i64.wrap (b+1))))))))) (J (.p0 a (i64.wrap (b+1)))))) bV)
def start (J:Pt->aI)(x0:aB):aI:=J (.p0 x0 0)
def live:Nat->Live:=fK [(2,gj [0,3])]
def md (a0:List aa):Int:=(ep (S:=Unit) (β:=Int) (fun i1 y1 s3=>(cond ((i1:Int)==0) (cond (!(Z77.md (a0.getD 0 aa.zero))) (.inr (i1)) (cond ((i1:Int)>0) (cond (!(Z86.md ((a0.getD (toNat (i64.wrap (i1 - 1))) aa.zero).an) y1)) (.inr (i1)) (.inl ())) (.inl ()))) (cond ((i1:Int)>0) (cond (!(Z86.md ((a0.getD (toNat (i64.wrap (i1 - 1))) aa.zero).an) y1)) (.inr (i1)) (.inl ())) (.inl ())))) (fun s3=>((-1):Int)) 0 a0 ())
def gd (a0:List aa):Prop:=(bN (2^21) (fun y:aa=>aa.Sm (2^21) y) a0)
def R:=RR gd md
def ak {a0}(h:gd a0):R (a0.map aa.row)=some (md a0):=cV h
def aT:=CN [pL 178] oI RT.dec R
def aY (a0)(H0:gd a0):∃n,start (iter step n) (a0.map aa.row)=ret (md a0):=by
 have Bh2:=bl H0
 refine ex_eq (dw (z:=aa.zero)) (eo fz ?_)
 refine cw (pt:=fun (i1:Nat) (s3:Unit)=>Pt.p0 (a0.map aa.row) (i1:Int)) (fun _ _=>True) (fun J i1 s3 h2 hih2=>?_) (fun s3 hih2=>?_) trivial
 ·simp only [step,SS]
  have:=(H0).1
  refine bp.yes dt (bp.bif (fun c4=>?_) (fun c4=>?_))
  ·refine bp.yes dt (cr (Z77.ak (bN.getD H0 (by omega))) ?_)
   refine bp.bif (fun c5=>bp.inr fz) (fun c5=>?_)
   refine bp.bif (fun c6=>?_) (fun c6=>?_)
   ·have dc6:=c6
    simp only [DC] at dc6
    refine bp.yes dt (bp.yes dt ?_)
    refine bp.yes aD (bp.yes (aK h2) ?_)
    refine cr (Z86.ak ⟨(bN.getD H0 (by (simp (disch:=omega) only [wi];omega))).1,(bN.getD H0 h2)⟩) (bp.bif (fun c7=>bp.inr fz) (fun c7=>?_))
    refine bp.inl trivial ?_
    rw [aH h2 Bh2]
   ·refine bp.inl trivial ?_
    rw [aH h2 Bh2]
  ·refine bp.bif (fun c8=>?_) (fun c8=>?_)
   ·have dc8:=c8
    simp only [DC] at dc8
    refine bp.yes dt (bp.yes dt ?_)
    refine bp.yes aD (bp.yes (aK h2) ?_)
    refine cr (Z86.ak ⟨(bN.getD H0 (by (simp (disch:=omega) only [wi];omega))).1,(bN.getD H0 h2)⟩) (bp.bif (fun c9=>bp.inr fz) (fun c9=>?_))
    refine bp.inl trivial ?_
    rw [aH h2 Bh2]
   ·refine bp.inl trivial ?_
    rw [aH h2 Bh2]
 ·simp only [step,SS]
  refine dO dn (⟨0,?_⟩)
  exact fz
def af:cz 234 aT:=L1 38 (fun _=>2) cu (fun _=>[]) live step start mix aC aY (eP Z77.af Z86.af) Tryz.func234
end Z87
namespace Z88
def F (x0:aB):aI:=(call (Z59.R (x0.length,1,12)) fun v1=>(cond v1 (call (Z87.R x0) fun v2=>ret ((decide (v2<0)))) (ret false)))
def md (a0:List aa):Bool:=(cond (Z59.md a0.length 1 12) ((decide ((Z87.md a0)<0))) false)
def gd (a0:List aa):Prop:=(bN (2^21) (fun y:aa=>aa.Sm (2^21) y) a0)
def R:=RR gd md
def ak {a0}(h:gd a0):R (a0.map aa.row)=some (md a0):=cV h
def aT:=CN [pL 178] oB RT.dec R
def aY (a0)(H0:gd a0):F (a0.map aa.row)=ret (md a0):=by
 unfold F md
 simp only [SS]
 refine ct (Z59.ak trivial) (bs (fun c1=>?_) (fun _=>rfl))
 exact ct (Z87.ak H0) fz
def af:cz 178 aT:=W1 11 F mix aC aY (eP Z59.af Z87.af) Tryz.func178
def tr {a0:List aa}(h:md a0=true):1<=a0.length/\a0.length<=12:=by simp [md,Z59.md] at h;omega
def rS {l:List aa}(h:md l=true):∀i,i<l.length->Z66.md (l.getD i aa.zero).an=true:=by
 intro i hi
 have h1:Z87.md l<0:=by
  unfold md at h
  cases hc:Z59.md (l.length:Int) 1 12<;>rw [hc] at h
  ·cases h
  ·simpa using h
 unfold Z87.md at h1
 have h2:=tV (z:=aa.zero) (by
  intro i x s b h
  revert h
  simp only [Bool.cond_eq_ite]
  repeat' split
  all_goals (intro h;first | (cases h;rfl) | cases h)) h1 i hi
 by_cases h0:i=0
 ·subst h0
  cases hf:Z77.md (l.getD 0 aa.zero)
  ·rw [hf] at h2;cases h2
  ·unfold Z77.md at hf
   cases hh:Z66.md (l.getD 0 aa.zero).an
   ·rw [hh] at hf;cases hf
   ·rfl
 ·have e:((i:Int)==0)=false:=beq_eq_false_iff_ne.2 (by omega)
  have e2:decide ((i:Int)>0)=true:=by simpa using by omega
  simp only [e,e2,aX,aZ] at h2
  cases hf:Z86.md ((l.getD (toNat (i64.wrap ((i:Int) - 1))) aa.zero).an) (l.getD i aa.zero)
  ·rw [hf] at h2;cases h2
  ·unfold Z86.md Z85.md at hf
   cases hh:Z66.md (l.getD i aa.zero).an
   ·rw [hh] at hf
    cases hp:Z66.md ((l.getD (toNat (i64.wrap ((i:Int) - 1))) aa.zero).an)<;>rw [hp] at hf<;>cases hf
   ·rfl
def CS {l:List aa}(h:md l=true):∀i,i<l.length->(l.getD i aa.zero).an.bz=(l.getD 0 aa.zero).an.bz:=by
 have hl:=tr h
 have h1:Z87.md l<0:=by
  unfold md at h
  cases hc:Z59.md (l.length:Int) 1 12<;>rw [hc] at h
  ·cases h
  ·simpa using h
 unfold Z87.md at h1
 have h2:=tV (z:=aa.zero) (by
  intro i x s b h
  revert h
  simp only [Bool.cond_eq_ite]
  repeat' split
  all_goals (intro h;first | (cases h;rfl) | cases h)) h1
 intro i
 induction i with
 | zero=>intro _;rfl
 | succ i ih=>
  intro hi
  have h3:=h2 (i+1) hi
  have e:(((i+1:Nat):Int)==0)=false:=beq_eq_false_iff_ne.2 (by omega)
  have e2:decide (((i+1:Nat):Int)>0)=true:=by simpa using by omega
  have ei:toNat (i64.wrap (((i+1:Nat):Int) - 1))=i:=by simp (disch:=omega) only [wi];omega
  simp only [e,e2,aX,aZ] at h3
  rw [ei] at h3
  cases hf:Z86.md ((l.getD i aa.zero).an) (l.getD (i+1) aa.zero)
  ·rw [hf] at h3;cases h3
  ·unfold Z86.md Z85.md at hf
   cases hz:((l.getD (i+1) aa.zero).an.bz != (l.getD i aa.zero).an.bz)
   ·rw [<-ih (by omega)];exact (by simpa using hz)
   ·rw [hz] at hf
    cases hp:Z66.md (l.getD i aa.zero).an<;>rw [hp] at hf
    ·cases hf
    ·cases hh:Z66.md (l.getD (i+1) aa.zero).an<;>rw [hh] at hf<;>cases hf
end Z88
namespace Z89
def F (x0:aB):aI:=(call (Z88.R x0) fun v1=>(cond (!v1) (ret (((⟨0,0,0,0,0,0,0,0,(⟨[],0⟩),(⟨[],0⟩),0,(⟨[],0⟩),false⟩),false):dI×Bool)) (bY ((0:Int)<=(i64.wrap (x0.length - 1))) (bY ((i64.wrap (x0.length - 1))<x0.length) (call (Z48.R ((bf.at x0 (toNat (i64.wrap (x0.length - 1)))).an)) fun v2=>ret ((v2,true):dI×Bool))))))
def md (a0:List aa):aF×Bool:=(cond (!(Z88.md a0)) ((⟨0,0,0,0,0,0,0,0,(⟨[],0⟩),(⟨[],0⟩),0,(⟨[],0⟩),false⟩),false) (((a0.getD (toNat (i64.wrap (a0.length - 1))) aa.zero).an),true))
def gd (a0:List aa):Prop:=(bN (2^21) (fun y:aa=>aa.Sm (2^21) y) a0)
def R:=RR gd md
def ak {a0}(h:gd a0):R (a0.map aa.row)=some ((aF.r (md a0).1),(md a0).2):=cV h
def aT:=CN [pL 178] (.iS [(true,f175),(false,[fB])]) RT.dec R
def aY (a0)(H0:gd a0):F (a0.map aa.row)=ret ((aF.r (md a0).1),(md a0).2):=by
 unfold F md
 simp only [SS]
 refine ct (Z88.ak H0) (ec (fun b:aF×Bool=>ret (((aF.r b.1),b.2):dI×Bool)) (fun c1=>fz) (fun c1=>?_))
 have tc1:=Z88.tr (by simpa using c1)
 refine aj dt (aj dt ?_)
 exact ct (Z48.ak (bN.getD H0 (by (simp (disch:=omega) only [wi];omega))).1) fz
def af:cz 137 aT:=W1 16 F mix aC aY (eP Z88.af Z48.af) Tryz.func137
def head {l:List aa}(h:(md l).2=true):Z88.md l=true/\(md l).1=(l.getD (l.length - 1) aa.zero).an/\Z66.md (md l).1=true:=by
 unfold md at h ⊢
 cases hc:Z88.md l
 ·rw [hc] at h;cases h
 ·have hl:=Z88.tr hc
  have hw:toNat (i64.wrap ((l.length:Int) - 1))=l.length - 1:=by
   rw [Go.IntWalk.i64_in _ (by omega)];omega
  simp only [Bool.not_true,aX,hw]
  exact ⟨trivial,trivial,Z88.rS hc _ (by omega)⟩
end Z89
namespace Z90
def F (x0:bK):aI:=(cond (x0.bJ==1) (call (Z60.R x0.aV) fun v1=>(cond v1 (call (Z59.R (x0.bX,0,999999)) fun v2=>(cond v2 (ret (((x0.bh.length:Int)==0))) (ret false))) (ret false))) (cond (x0.bJ==2) (call (Z60.R x0.aV) fun v3=>(cond v3 (call (Z59.R (x0.bX,0,2147483646)) fun v4=>(cond v4 (ret (((x0.bh.length:Int)==0))) (ret false))) (ret false))) (cond (x0.bJ==3) (call (Z60.R x0.aV) fun v5=>(cond v5 (call (Z59.R (x0.bX,0,2147483646)) fun v6=>(cond v6 (call (Z61.R x0.bh) fun v7=>ret v7) (ret false))) (ret false))) (ret false))))
def md (a0:ah):Bool:=(cond (a0.bJ==1) (cond (Z60.md a0.aV) (cond (Z59.md a0.bX 0 999999) (((a0.bh.length:Int)==0)) false) false) (cond (a0.bJ==2) (cond (Z60.md a0.aV) (cond (Z59.md a0.bX 0 2147483646) (((a0.bh.length:Int)==0)) false) false) (cond (a0.bJ==3) (cond (Z60.md a0.aV) (cond (Z59.md a0.bX 0 2147483646) ((Z61.md a0.bh)) false) false) false)))
def gd (a0:ah):Prop:=(ah.Sm (2^21) a0)
def R:=RR gd md
def ak {a0}(h:gd a0):R (ah.r a0)=some (md a0):=cV h
def aT:=CN [.agg tw] oB RT.dec R
def aY (a0)(H0:gd a0):F (ah.r a0)=ret (md a0):=by
 refine bs (fun c1=>?_) (fun c1=>?_)
 ·refine ct (Z60.ak (le_trans H0.1 (by decide))) (bs (fun c2=>?_) (fun _=>rfl))
  refine ct (Z59.ak trivial) (bs (fun c3=>?_) (fun _=>rfl))
  exact fz
 ·refine bs (fun c4=>?_) (fun c4=>?_)
  ·refine ct (Z60.ak (le_trans H0.1 (by decide))) (bs (fun c5=>?_) (fun _=>rfl))
   refine ct (Z59.ak trivial) (bs (fun c6=>?_) (fun _=>rfl))
   exact fz
  ·refine bs (fun c7=>?_) (fun _=>rfl)
   refine ct (Z60.ak (le_trans H0.1 (by decide))) (bs (fun c8=>?_) (fun _=>rfl))
   refine ct (Z59.ak trivial) (bs (fun c9=>?_) (fun _=>rfl))
   exact ct (Z61.ak (H0.2.mono (by decide) (fun x hx=>(le_trans hx (by decide))))) fz
def af:cz 260 aT:=W1 52 F mix aC aY (kC Z60.af Z59.af Z61.af) Tryz.func260
end Z90
namespace Z91
def F (x0 x1:aE):aI:=(cond (Op.bytesLess x0.toList x1.toList) bV (cond (!((Op.bytesLess x0.toList x1.toList)||(x0.toList==x1.toList))) (ret (1:Int)) (ret (0:Int))))
def md (a0 a1:aE):Int:=(cond (Op.bytesLess a0.toList a1.toList) ((-1):Int) (cond (!((Op.bytesLess a0.toList a1.toList)||(a0.toList==a1.toList))) (1:Int) (0:Int)))
def gd (a0 a1:aE):Prop:=True
def R:=cm gd md
def ak {a0 a1}(h:gd a0 a1):R (a0,a1)=some (md a0 a1):=cq h
def aT:=CN [pS,pS] oI RT.dec R
def aY (a0)(a1)(hg:gd a0 a1):F a0 a1=ret (md a0 a1):=by
 refine bs (fun _=>rfl) (fun c1=>?_)
 refine bs (fun _=>rfl) (fun _=>rfl)
def af:cz 69 aT:=W2 13 F mix aC aY .nil Tryz.func69
def vals (a b:aE):md a b=-1∨md a b=0∨md a b=1:=by
 unfold md
 cases Op.bytesLess a.toList b.toList
 ·cases (!(false||(a.toList==b.toList)))<;>simp
 ·simp
def lt (a b:aE):decide (md a b<0)=(md a b == -1):=by
 rcases vals a b with h | h | h<;>rw [h]<;>rfl
def gt (a b:aE):decide (md a b>0)=(md a b==1):=by
 rcases vals a b with h | h | h<;>rw [h]<;>rfl
def bl:∀a b:List UInt8,(Op.bytesLess a b||a==b)=!(Op.bytesLess b a)
 | [],[]=>by simp [Op.bytesLess]
 | [],_::_=>by simp [Op.bytesLess]
 | _::_,[]=>by simp [Op.bytesLess]
 | a::xs,b::ys=>by
  have ih:=bl xs ys
  simp only [Op.bytesLess]
  by_cases h1:a<b
  ·have h2:¬b<a:=UInt8.not_lt.2 (UInt8.le_of_lt h1)
   have h3:¬b=a:=fun h=>by subst h;exact UInt8.lt_irrefl _ h1
   simp [h1,h2,h3]
  ·by_cases h2:a=b
   ·subst h2
    have hr:¬a<a:=UInt8.lt_irrefl a
    simp only [hr,decide_false,Bool.false_or,beq_self_eq_true,Bool.true_and,List.cons_beq_cons]
    exact ih
   ·have h3:b<a:=by
     rcases UInt8.lt_or_lt_of_ne h2 with h | h
     ·exact (h1 h).elim
     ·exact h
    simp [h1,h2,h3,List.cons_beq_cons]
def swap (a b:aE):decide (md a b<=0)=(md b a != -1):=by
 unfold md
 rw [bl a.toList b.toList,bl b.toList a.toList]
 have h:=bl a.toList b.toList
 cases h1:Op.bytesLess a.toList b.toList<;>cases h2:Op.bytesLess b.toList a.toList<;>rw [h1,h2] at h<;>simp at h ⊢
end Z91
namespace Z92
inductive Pt where
 | p0 (a:aB) (b:Int)
def cu:Pt->List V
 | .p0 a b=>[.sl none 38 a,.int .i64 b]
def step (J:Pt->aI):Pt->aI
 | .p0 a b=>(cond (b<(a.length:Int)) (m2 b (a.length:Int) (call (Z90.R (bK.at a (toNat b))) fun v1=>(cond (!v1) dx (cond (b>0) (bY ((0:Int)<=(i64.wrap (b - 1))) (bY ((i64.wrap (b - 1))<(a.length:Int)) (m2 b (a.length:Int) (call (Z91.R ((bK.at a (toNat (i64.wrap (b - 1)))).aV,(bK.at a (toNat b)).aV)) fun v2=>(cond (v2 != (-1)) dx (J (.p0 a (i64.wrap (b+1))))))))) (J (.p0 a (i64.wrap (b+1)))))))) (ret ((decide ((a.length:Int)<=12)):Bool)))
def start (J:Pt->aI)(x0:aB):aI:=J (.p0 x0 0)
def live:Nat->Live:=fK [(2,gj [0,3])]
def md (a0:List ah):Bool:=(ep (S:=Unit) (β:=Bool) (fun i1 y1 s3=>(cond (!(Z90.md y1)) (.inr false) (cond ((i1:Int)>0) (cond ((Z91.md ((a0.getD (toNat (i64.wrap (i1 - 1))) ah.zero).aV) (y1.aV)) != (-1)) (.inr false) (.inl ())) (.inl ())))) (fun s3=>((decide ((a0.length:Int)<=12)))) 0 a0 ())
def gd (a0:List ah):Prop:=(bN (2^21) (fun y:ah=>ah.Sm (2^21) y) a0)
def R:=RR gd md
def ak {a0}(h:gd a0):R (a0.map ah.row)=some (md a0):=cV h
def aT:=CN [pL 38] oB RT.dec R
def aY (a0)(H0:gd a0):∃n,start (iter step n) (a0.map ah.row)=ret (md a0):=by
 have Bh2:=bl H0
 refine ex_eq (dw (z:=ah.zero)) (eo fz ?_)
 refine cw (pt:=fun (i1:Nat) (s3:Unit)=>Pt.p0 (a0.map ah.row) (i1:Int)) (fun _ _=>True) (fun J i1 s3 h2 hih2=>?_) (fun s3 hih2=>?_) trivial
 ·simp only [step,SS]
  have:=(H0).1
  refine bp.yes dt (bp.yes aD ?_)
  refine bp.yes (aK h2) (cr (Z90.ak (bN.getD H0 h2)) ?_)
  refine bp.bif (fun _=>bp.inr rfl) (fun c4=>?_)
  refine bp.bif (fun c5=>?_) (fun c5=>?_)
  ·have dc5:=c5
   simp only [DC] at dc5
   refine bp.yes dt (bp.yes dt ?_)
   refine bp.yes aD (bp.yes (aK h2) ?_)
   refine cr (Z91.ak trivial) (bp.bif (fun _=>bp.inr rfl) (fun c6=>?_))
   refine bp.inl trivial ?_
   rw [aH h2 Bh2]
  ·refine bp.inl trivial ?_
   rw [aH h2 Bh2]
 ·simp only [step,SS]
  refine dO dn (⟨0,?_⟩)
  exact fz
def af:cz 287 aT:=L1 38 (fun _=>2) cu (fun _=>[]) live step start mix aC aY (eP Z90.af Z91.af) Tryz.func287
end Z92
namespace Z93
inductive Pt where
 | p0 (a:aB) (b:Int) (c:aB)
def cu:Pt->List V
 | .p0 a b c=>[.sl none 5 a,.own 0,.int .i64 b]
def cR:Pt->List aW
 | .p0 a b c=>[.row 3 c]
def step (J:Pt->aI):Pt->aI
 | .p0 a b c=>(cond (b<(a.length:Int)) (m2 b (a.length:Int) (bY (fJ (((c.length:Int)+1)*8)) (J (.p0 a (i64.wrap (b+1)) (c++[[L.int (i64.wrap (kr a (toNat b)))]]))))) (ret (c:aB)))
def start (J:Pt->aI)(x0:aB):aI:=J (.p0 x0 0 [[L.int x0.length]])
def live:Nat->Live:=fK [(3,gj [0,3,4])]
def md (a0:List Int):List Int:=([(a0.length:Int)]++a0.map (fun y1=>(i64.wrap y1)))
def gd (a0:List Int):Prop:=(bN (2^38) (fun y:Int=>True) a0)
def R:=RR gd md
def ak {a0}(h:gd a0):R (a0.map bt)=some ((md a0).map bt):=cV h
def aT:=CN [pL 5] (oL 3) RT.dec R
def aY (a0)(H0:gd a0):∃n,start (iter step n) (a0.map bt)=ret ((md a0).map bt):=by
 have Bh2:=bl H0
 refine ex_eq (out:=(fun b:List Int=>ret ((b.map bt):aB))) (nv (g:=fun (y1:Int)=>(i64.wrap y1)) (z:=0) (t:=fun (s3:List Int)=>s3)) (eo (p:=Pt.p0 (a0.map bt) 0 ([(a0.length:Int)].map bt)) fz ?_)
 refine cw (pt:=fun (i1:Nat) (s3:List Int)=>Pt.p0 (a0.map bt) (i1:Int) (s3.map bt)) (out:=(fun b:List Int=>ret ((b.map bt):aB))) (fun (i1:Nat) (s3:List Int)=>s3.length<=[(a0.length:Int)].length+1*i1) (fun J i1 s3 h2 hih2=>?_) (fun s3 hih2=>?_) (by simp)
 ·simp only [step,SS]
  have gr_:=hih2
  simp only [LN] at gr_
  have:=(H0).1
  refine bp.yes dt (bp.yes aD ?_)
  refine bp.yes (aK h2) (bp.yes lm ?_)
  refine bp.inl (by
    (simp;omega)) ?_
  rw [aH h2 Bh2]
  exact fz
 ·simp only [step,SS]
  refine dO dn (⟨0,?_⟩)
  exact fz
def af:cz 373 aT:=L1 23 (fun _=>3) cu cR live step start mix aC aY .nil Tryz.func373
def len (a0:List Int):(md a0).length=1+a0.length:=by simp [md];omega
end Z93
namespace Z94
def F (x0:aE):aI:=(bY ((x0.size:Int)<=140737488355328) (call (Z93.R (ji x0)) fun v1=>ret (v1:aB)))
def md (a0:aE):List Int:=(Z93.md (kX a0))
def gd (a0:aE):Prop:=(a0.size<=(2^21))
def R:=RR gd md
def ak {a0}(h:gd a0):R a0=some ((md a0).map bt):=cV h
def aT:=CN [pS] (oL 3) RT.dec R
def aY (a0)(hg:gd a0):F a0=ret ((md a0).map bt):=by
 unfold gd at hg
 have H0:=hg
 refine aj (have:=H0;dt) (aU _ (rq (Z93.ak (a0:=(kX a0)) ⟨(have:=iH a0;have:=H0;om),fun _ _=>trivial⟩)) ?_)
 exact fz
def af:cz 343 aT:=W1 6 F mix aC aY (cD Z93.af) Tryz.func343
def len (a0:aE):(md a0).length=1+a0.size:=by simp [md,Z93.len,iH]
end Z94
namespace Z95
inductive Pt where
 | p0 (a:Int) (b:bK) (c:aB)
def cu:Pt->List V
 | .p0 a b c=>[.cC 0 0,.own 1,.int .i64 a]
def cR:Pt->List aW
 | .p0 a b c=>[.box [.str b.aV,.int .i64 b.bJ,.int .i64 b.bX,.sl none 9 b.bh],.row 3 c]
def step (J:Pt->aI):Pt->aI
 | .p0 a b c=>(cond (a<(b.bh.length:Int)) (m2 a (b.bh.length:Int) (call (Z94.R (qS b.bh (toNat a))) fun v1=>(bY (fJ (((c.length:Int)+(v1.length:Int))*8)) (J (.p0 (i64.wrap (a+1)) b (c++v1)))))) (ret (c:aB)))
def start (J:Pt->aI)(x0:bK):aI:=(call (Z94.R x0.aV) fun v1=>(bY (fJ ((v1.length+3)*8)) (J (.p0 0 x0 (v1++[[L.int x0.bJ],[L.int x0.bX],[L.int x0.bh.length]])))))
def live:Nat->Live:=fK [(3,gj [1,3,4])]
def md (a0:ah):List Int:=(((Z94.md a0.aV)++[a0.bJ,a0.bX,a0.bh.length])++a0.bh.flatMap (fun y1=>(Z94.md y1)))
def gd (a0:ah):Prop:=(ah.Sm (2^21) a0)
def R:=RR gd md
def ak {a0}(h:gd a0):R (ah.r a0)=some ((md a0).map bt):=cV h
def aT:=CN [.agg tw] (oL 3) RT.dec R
def aY (a0)(H0:gd a0):∃n,start (iter step n) (ah.r a0)=ret ((md a0).map bt):=by
 refine cx (Z94.ak H0.1) ?_
 simp only [SS]
 refine dW (have:=Z94.len a0.aV;have:=H0.1;lm) ?_
 have Bh2:=bl H0.2
 refine ex_eq (out:=(fun b:List Int=>ret ((b.map bt):aB))) (sF (g:=fun (y1:aE)=>(Z94.md y1)) (z:=⟨#[]⟩) (t:=fun (s3:List Int)=>s3)) (eo (p:=Pt.p0 0 (ah.r a0) (((Z94.md a0.aV)++[a0.bJ,a0.bX,(a0.bh.length:Int)]).map bt)) fz ?_)
 refine cw (pt:=fun (i1:Nat) (s3:List Int)=>Pt.p0 (i1:Int) (ah.r a0) (s3.map bt)) (out:=(fun b:List Int=>ret ((b.map bt):aB))) (fun (i1:Nat) (s3:List Int)=>s3.length<=4+a0.aV.size+i1*(2^21+1)) (fun J i1 s3 h2 hih2=>?_) (fun s3 hih2=>?_) (by
   have:=Z94.len a0.aV
   simp
   try omega)
 ·simp only [step,SS]
  have:=H0.1
  have:=(H0.2).1
  refine bp.yes dt (bp.yes aD ?_)
  refine bp.yes (aK h2) (cr (Z94.ak (bN.getD H0.2 h2)) ?_)
  refine bp.yes (have:=Z94.len (a0.bh.getD i1 ⟨#[]⟩);have:=(bN.getD (z:=⟨#[]⟩) H0.2 h2);lm) ?_
  refine bp.inl (by
    have:=Z94.len (a0.bh.getD i1 ⟨#[]⟩)
    have:=(bN.getD (z:=⟨#[]⟩) H0.2 h2)
    have g_:=hih2
    simp only [LN] at g_ ⊢
    first | omega | (simp;done) | (simp;omega)) ?_
  rw [aH h2 Bh2]
  exact fz
 ·simp only [step,SS]
  refine dO dn (⟨0,?_⟩)
  exact fz
def af:cz 312 aT:=L1 33 (fun _=>3) cu cR live step start mix aC aY (cD Z94.af) Tryz.func312
def iR {a0:ah}(hg:gd a0):bN (2^43 - 1) (fun y:Int=>True) (md a0):=by
 refine ⟨?_,fun _ _=>trivial⟩
 unfold md
 have h1:=mC (xs:=a0.bh) (g:=fun y=>Z94.md y) (n:=2^21+1) (fun x hx=>by rw [Z94.len];have:=hg.2.2 x hx;omega)
 have h2:=hg.1
 have h3:=hg.2.1
 have h4:=Z94.len a0.aV
 simp only [List.length_append,List.length_cons,List.length_nil]
 omega
end Z95
namespace Z96
def F (x0:bK):aI:=(call (Z95.R x0) fun v1=>(bY (fJ (((1:Int)+v1.length)*8)) (call (Z69.R ([[L.int 227]]++v1)) fun v2=>ret v2)))
def md (a0:ah):Int:=((Z69.md ([227]++(Z95.md a0))))
def gd (a0:ah):Prop:=(ah.Sm (2^21) a0)
def R:=RR gd md
def ak {a0}(h:gd a0):R (ah.r a0)=some (md a0):=cV h
def aT:=CN [.agg tw] oI RT.dec R
def aY (a0)(H0:gd a0):F (ah.r a0)=ret (md a0):=by
 refine ct (Z95.ak H0) (aj (have:=((Z95.iR H0)).1;lm) ?_)
 exact aU _ (rq (Z69.ak (a0:=([227]++(Z95.md a0))) ⟨(have:=((Z95.iR H0)).1;om),fun _ _=>trivial⟩)) fz
def af:cz 259 aT:=W1 8 F mix aC aY (eP Z95.af Z69.af) Tryz.func259
end Z96
namespace Z97
inductive Pt where
 | p0 (a:aB) (b:Int) (c:aB)
def cu:Pt->List V
 | .p0 a b c=>[.sl none 38 a,.own 0,.int .i64 b]
def cR:Pt->List aW
 | .p0 a b c=>[.row 3 c]
def step (J:Pt->aI):Pt->aI
 | .p0 a b c=>(cond (b<(a.length:Int)) (m2 b (a.length:Int) (call (Z96.R (bK.at a (toNat b))) fun v1=>(bY (fJ (((c.length:Int)+1)*8)) (J (.p0 a (i64.wrap (b+1)) (c++[[L.int v1]])))))) (ret (c:aB)))
def start (J:Pt->aI)(x0:aB):aI:=J (.p0 x0 0 [])
def live:Nat->Live:=fK [(3,[(0,none),(3,some 3),(4,none)])]
def md (a0:List ah):List Int:=(a0.map (fun y1=>(Z96.md y1)))
def gd (a0:List ah):Prop:=(bN (2^21) (fun y:ah=>ah.Sm (2^21) y) a0)
def R:=RR gd md
def ak {a0}(h:gd a0):R (a0.map ah.row)=some ((md a0).map bt):=cV h
def aT:=CN [pL 38] (oL 3) RT.dec R
def aY (a0)(H0:gd a0):∃n,start (iter step n) (a0.map ah.row)=ret ((md a0).map bt):=by
 have Bh2:=bl H0
 refine ex_eq (out:=(fun b:List Int=>ret ((b.map bt):aB))) (oF (g:=fun (y1:ah)=>(Z96.md y1)) (z:=ah.zero) (t:=fun (s3:List Int)=>s3)) (eo fz ?_)
 refine cw (pt:=fun (i1:Nat) (s3:List Int)=>Pt.p0 (a0.map ah.row) (i1:Int) (s3.map bt)) (s:=([]:List Int)) (out:=(fun b:List Int=>ret ((b.map bt):aB))) (fun (i1:Nat) (s3:List Int)=>s3.length<=([]:List Int).length+1*i1) (fun J i1 s3 h2 hih2=>?_) (fun s3 hih2=>?_) (by simp)
 ·simp only [step,SS]
  have gr_:=hih2
  simp only [LN] at gr_
  have:=(H0).1
  refine bp.yes dt (bp.yes aD ?_)
  refine bp.yes (aK h2) (cr (Z96.ak (bN.getD H0 h2)) ?_)
  refine bp.yes lm ?_
  refine bp.inl (by
    (simp;omega)) ?_
  rw [aH h2 Bh2]
  exact fz
 ·simp only [step,SS]
  refine dO dn (⟨0,?_⟩)
  exact fz
def af:cz 286 aT:=L1 21 (fun _=>3) cu cR live step start mix aC aY (cD Z96.af) Tryz.func286
def len (a0:List ah):(md a0).length=a0.length:=by simp [md]
end Z97
namespace Z98
def F (x0 x1:Int):aI:=(call (Z69.R [[L.int 229],[L.int x0],[L.int x1]]) fun v1=>ret v1)
def md (a0 a1:Int):Int:=((Z69.md [229,a0,a1]))
def gd (a0 a1:Int):Prop:=True
def R:=cm gd md
def ak {a0 a1}(h:gd a0 a1):R (a0,a1)=some (md a0 a1):=cq h
def aT:=CN [pI,pI] oI RT.dec R
def aY (a0)(a1)(hg:gd a0 a1):F a0 a1=ret (md a0 a1):=aU _ (rq (Z69.ak (a0:=[229,a0,a1]) ⟨(om),fun _ _=>trivial⟩)) fz
def af:cz 310 aT:=W2 9 F mix aC aY (cD Z69.af) Tryz.func310
end Z98
namespace Z99
inductive Pt where
 | p0 (a:aB) (b:Int) (c:aB)
def cu:Pt->List V
 | .p0 a b c=>[.sl none 3 a,.own 0,.int .i64 b]
def cR:Pt->List aW
 | .p0 a b c=>[.row 3 c]
def step (J:Pt->aI):Pt->aI
 | .p0 a b c=>(cond (b<(a.length:Int)) (cond ((i64.wrap (b+1))<(a.length:Int)) (m2 b (a.length:Int) (bY ((0:Int)<=(i64.wrap (b+1))) (bY ((i64.wrap (b+1))<(a.length:Int)) (call (Z98.R ((kr a (toNat b)),(kr a (toNat (i64.wrap (b+1)))))) fun v1=>(bY (fJ (((c.length:Int)+1)*8)) (J (.p0 a (i64.wrap (b+2)) (c++[[L.int v1]])))))))) (m2 b (a.length:Int) (bY (fJ (((c.length:Int)+1)*8)) (J (.p0 a (i64.wrap (b+2)) (c++[[L.int (kr a (toNat b))]])))))) (ret (c:aB)))
def start (J:Pt->aI)(x0:aB):aI:=J (.p0 x0 0 [])
def live:Nat->Live:=fK [(3,[(0,none),(3,some 3),(4,none)])]
def up:List Int->List Int
 | []=>[]
 | [a]=>[a]
 | a::b::r=>Z98.md a b::up r
def lK:∀l:List Int,(up l).length=(l.length+1) / 2
 | []=>by simp [up]
 | [_]=>by simp [up]
 | _::_::r=>by
  have:=lK r
  simp only [up,List.length_cons]
  omega
def md (a0:List Int):List Int:=up a0
def gd (a0:List Int):Prop:=bN (2^38) (fun y:Int=>True) a0
def R:=RR gd md
def ak {a0}(h:gd a0):R (a0.map bt)=some ((md a0).map bt):=cV h
def aT:=CN [pL 3] (oL 3) RT.dec R
def aY (a0)(hg:gd a0):∃n,start (iter step n) (a0.map bt)=ret ((md a0).map bt):=by
 obtain ⟨H1,_⟩:=hg
 have key:∀(k i:Nat) (c:List Int),i+k=a0.length->c.length<=i->∃n,iter step n (Pt.p0 (a0.map bt) (i:Int) (c.map bt))=ret ((c++up (a0.drop i)).map bt:aB):=by
  intro k
  induction k using Nat.strongRecOn with
  | _ k ih=>
  intro i c hi hc
  match k,hi,ih with
  | 0,hi,_=>
   refine ⟨1,?_⟩
   show step (iter step 0) (Pt.p0 _ _ _)=_
   simp only [step,List.length_map]
   refine cW (decide_eq_false (by omega)) ?_
   rw [List.drop_eq_nil_of_le (by omega)]
   simp only [up,List.append_nil]
  | 1,hi,ih=>
   obtain ⟨n,hn⟩:=ih 0 (by omega) (i+1) (c++[a0.getD i 0]) (by omega) (by simp;omega)
   have h2:∃n,iter step n (Pt.p0 (a0.map bt) (i64.wrap ((i:Int)+2)) ((c++[a0.getD i 0]).map bt))=ret ((c++[a0.getD i 0]).map bt:aB):=by
    refine ⟨1,?_⟩
    show step (iter step 0) (Pt.p0 _ _ _)=_
    simp only [step,List.length_map]
    refine cW (decide_eq_false ?_) rfl
    rw [Go.IntWalk.i64_in _ (by omega)];omega
   obtain ⟨n,hn⟩:=h2
   refine ⟨n+1,?_⟩
   show step (iter step n) (Pt.p0 _ _ _)=_
   simp only [step,List.length_map,cM,iC]
   refine aj (decide_eq_true (by omega)) (cW (decide_eq_false ?_) (aj (decide_eq_true (by omega)) (aj (decide_eq_true (by omega)) (aj (iV (by omega)) ?_))))
   ·rw [Go.IntWalk.i64_in _ (by omega)];omega
   ·rw [List.map_append] at hn
    refine Eq.trans hn ?_
    rw [List.drop_eq_getElem_cons (by omega),List.drop_eq_nil_of_le (by omega),fF (by omega:i<a0.length)]
    simp only [up,List.map_append]
  | k+2,hi,ih=>
   obtain ⟨n,hn⟩:=ih k (by omega) (i+2) (c++[Z98.md (a0.getD i 0) (a0.getD (i+1) 0)]) (by omega) (by simp;omega)
   refine ⟨n+1,?_⟩
   show step (iter step n) (Pt.p0 _ _ _)=_
   have w1:i64.wrap ((i:Int)+1)=((i+1:Nat):Int):=by rw [Go.IntWalk.i64_in _ (by omega)];omega
   have w2:i64.wrap ((i:Int)+2)=((i+2:Nat):Int):=by rw [Go.IntWalk.i64_in _ (by omega)];omega
   simp only [step,List.length_map,w1,w2,cM,iC]
   refine aj (decide_eq_true (by omega)) (aj (decide_eq_true (by omega)) (aj (decide_eq_true (by omega)) (aj (decide_eq_true (by omega)) (aj (decide_eq_true (by omega)) (aj (decide_eq_true (by omega)) ?_)))))
   refine aU _ (Z98.ak trivial) (aj (iV (by omega)) ?_)
   rw [List.map_append] at hn
   refine Eq.trans hn ?_
   rw [List.drop_eq_getElem_cons (by omega:i<a0.length),List.drop_eq_getElem_cons (by omega:i+1<a0.length),fF (by omega:i<a0.length),fF (by omega:i+1<a0.length)]
   simp only [up,List.append_assoc,List.cons_append,List.nil_append]
 have:=key a0.length 0 [] (by omega) (by simp)
 unfold start md
 simpa using this
def af:cz 328 aT:=L1 38 (fun _=>3) cu cR live step start mix aC aY (cD Z98.af) Tryz.func328
end Z99
namespace Z100
inductive Pt where
 | p0 (a:aB)
 | p1 (a:aB)
def cu:Pt->List V
 | .p0 a=>[.sl none 3 a]
 | .p1 a=>[.own 0]
def cR:Pt->List aW
 | .p0 a=>[]
 | .p1 a=>[.row 3 a]
def step (J:Pt->aI):Pt->aI
 | .p0 a=>(cond ((a.length:Int)>1) (call (Z99.R a) fun v1=>J (.p1 v1)) (bY ((0:Int)<(a.length:Int)) (ret ((kr a 0):Int))))
 | .p1 a=>(cond ((a.length:Int)>1) (call (Z99.R a) fun v1=>J (.p1 v1)) (bY ((0:Int)<(a.length:Int)) (ret ((kr a 0):Int))))
def start (J:Pt->aI)(x0:aB):aI:=(cond ((x0.length:Int)==0) (call (Z69.R [[L.int 229]]) fun v1=>ret v1) (J (.p0 x0)))
def live:Nat->Live:=fK [(4,[(3,none)])]
def top:Nat->List Int->Int
 | 0,l=>l.getD 0 0
 | k+1,l=>if l.length>1 then top k (Z99.up l) else l.getD 0 0
def md (a0:List Int):Int:=(if a0.length=0 then Z69.md [229] else top a0.length a0)
def gd (a0:List Int):Prop:=bN (2^38) (fun y:Int=>True) a0
def R:=RR gd md
def ak {a0}(h:gd a0):R (a0.map bt)=some (md a0):=cV h
def aT:=CN [pL 3] oI RT.dec R
def aY (a0)(hg:gd a0):∃n,start (iter step n) (a0.map bt)=ret (md a0):=by
 have one:∀(l:List Int) (r:Int) (n:Nat),bN (2^38) (fun y:Int=>True) l->0<l.length->(if l.length>1 then iter step n (Pt.p1 ((Z99.up l).map bt))=ret r else ret (l.getD 0 0:Int)=ret r)->step (iter step n) (Pt.p0 (l.map bt))=ret r/\step (iter step n) (Pt.p1 (l.map bt))=ret r:=by
  intro l r n hl hp h
  simp only [step,List.length_map,iC]
  by_cases h1:l.length>1
  ·rw [if_pos h1] at h
   have hx:∀y:aI,(cond ((l.length:Int)>1) (call (Z99.R (l.map bt)) (fun v1=>iter step n (Pt.p1 v1))) y)=ret r:=fun y=>
    aj (decide_eq_true (by omega)) (aU _ (Z99.ak hl) h)
   exact ⟨hx _,hx _⟩
  ·rw [if_neg h1] at h
   have hx:∀y:aI,(cond ((l.length:Int)>1) y (cond ((0:Int)<(l.length:Int)) (ret (l.getD 0 0:Int)) none))=ret r:=fun y=>
    cW (decide_eq_false (by omega)) (aj (decide_eq_true (by omega)) h)
   exact ⟨hx _,hx _⟩
 have key:∀(k:Nat) (l:List Int),bN (2^38) (fun y:Int=>True) l->0<l.length->l.length<=k+1->∃n,step (iter step n) (Pt.p0 (l.map bt))=ret (top k l)/\step (iter step n) (Pt.p1 (l.map bt))=ret (top k l):=by
  intro k
  induction k with
  | zero=>
   intro l hl hp hk
   exact ⟨0,one l _ 0 hl hp (by rw [if_neg (by omega)];rfl)⟩
  | succ k ih=>
   intro l hl hp hk
   by_cases h1:l.length>1
   ·have hu:=Z99.lK l
    have hl1:=hl.1
    obtain ⟨n,_,hn⟩:=ih (Z99.up l) ⟨by omega,fun _ _=>trivial⟩ (by omega) (by omega)
    refine ⟨n+1,one l _ (n+1) hl hp ?_⟩
    rw [if_pos h1]
    refine Eq.trans hn ?_
    unfold top
    rw [if_pos h1]
    cases k<;>rfl
   ·refine ⟨0,one l _ 0 hl hp ?_⟩
    rw [if_neg h1]
    unfold top
    rw [if_neg h1]
 unfold md
 unfold start
 simp only [List.length_map]
 by_cases h0:a0.length=0
 ·have e:((a0.length:Int)==0)=true:=by simpa using List.length_eq_zero_iff.1 h0
  refine ⟨0,?_⟩
  rw [e]
  refine aU _ (Z69.ak (a0:=[229]) ⟨by decide,fun _ _=>trivial⟩) ?_
  rw [if_pos h0]
 ·have e:((a0.length:Int)==0)=false:=beq_eq_false_iff_ne.2 (by omega)
  obtain ⟨n,hn,_⟩:=key a0.length a0 hg (by omega) (by omega)
  refine ⟨n+1,?_⟩
  rw [e,if_neg h0]
  exact hn
def af:cz 314 aT:=L1 18 (fun _=>4) cu cR live step start mix aC aY (eP Z69.af Z99.af) Tryz.func314
end Z100
namespace Z101
def F (x0 x1:Int):aI:=(call (Z69.R [[L.int 231],[L.int x0],[L.int x1]]) fun v1=>ret v1)
def md (a0 a1:Int):Int:=((Z69.md [231,a0,a1]))
def gd (a0 a1:Int):Prop:=True
def R:=cm gd md
def ak {a0 a1}(h:gd a0 a1):R (a0,a1)=some (md a0 a1):=cq h
def aT:=CN [pI,pI] oI RT.dec R
def aY (a0)(a1)(hg:gd a0 a1):F a0 a1=ret (md a0 a1):=aU _ (rq (Z69.ak (a0:=[231,a0,a1]) ⟨(om),fun _ _=>trivial⟩)) fz
def af:cz 261 aT:=W2 9 F mix aC aY (cD Z69.af) Tryz.func261
end Z101
namespace Z102
def F (x0:aB):aI:=(call (Z97.R x0) fun v1=>(call (Z100.R v1) fun v2=>(call (Z101.R (x0.length,v2)) fun v3=>ret v3)))
def md (a0:List ah):Int:=((Z101.md a0.length (Z100.md (Z97.md a0))))
def gd (a0:List ah):Prop:=(bN (2^21) (fun y:ah=>ah.Sm (2^21) y) a0)
def R:=RR gd md
def ak {a0}(h:gd a0):R (a0.map ah.row)=some (md a0):=cV h
def aT:=CN [pL 38] oI RT.dec R
def aY (a0)(H0:gd a0):F (a0.map ah.row)=ret (md a0):=by
 refine ct (Z97.ak H0) ?_
 simp only [SS]
 refine ct (Z100.ak ⟨(have:=Z97.len a0;have:=(H0).1;om),fun _ _=>trivial⟩) (ct (Z101.ak trivial) ?_)
 exact fz
def af:cz 264 aT:=W1 9 F mix aC aY (kC Z97.af Z100.af Z101.af) Tryz.func264
end Z102
namespace Z103
def F (x0:Int)(x1:aB):aI:=(call (Z92.R x1) fun v1=>(cond v1 (call (Z102.R x1) fun v2=>ret ((v2==x0))) (ret false)))
def md (a0:Int)(a1:List ah):Bool:=(cond (Z92.md a1) (((Z102.md a1)==a0)) false)
def gd (a0:Int)(a1:List ah):Prop:=(bN (2^21) (fun y:ah=>ah.Sm (2^21) y) a1)
def R:=cm gd md
def ak {a0 a1}(h:gd a0 a1):R (a0,(a1.map ah.row))=some (md a0 a1):=cq h
def aT:=CN [pI,pL 38] oB RT.dec R
def aY (a0)(a1)(H1:gd a0 a1):F a0 (a1.map ah.row)=ret (md a0 a1):=by
 refine ct (Z92.ak H1) (bs (fun c1=>?_) (fun _=>rfl))
 exact ct (Z102.ak H1) fz
def af:cz 284 aT:=W2 13 F mix aC aY (eP Z92.af Z102.af) Tryz.func284
end Z103
namespace Z104
def F (x0:eE):aI:=(call (Z89.R x0.aQ) fun v1=>(cond v1.2 (cond (v1.1.cE==x0.bR.length) (call (Z103.R (v1.1.dG,x0.bR)) fun v2=>ret v2) (ret false)) (ret false)))
def md (a0:aP):Bool:=(cond ((Z89.md a0.aQ).2) (cond ((Z89.md a0.aQ).1.cE==a0.bR.length) ((Z103.md ((Z89.md a0.aQ).1.dG) a0.bR)) false) false)
def gd (a0:aP):Prop:=(aP.Sm (2^21) a0)
def R:=RR gd md
def ak {a0}(h:gd a0):R (aP.r a0)=some (md a0):=cV h
def aT:=CN [.agg uQ] oB RT.dec R
def aY (a0)(H0:gd a0):F (aP.r a0)=ret (md a0):=by
 refine ct (Z89.ak H0.1) ?_
 simp only [SS]
 refine bs (fun c1=>?_) (fun _=>rfl)
 refine bs (fun c2=>?_) (fun _=>rfl)
 exact ct (Z103.ak H0.2) fz
def af:cz 230 aT:=W1 27 F mix aC aY (eP Z89.af Z103.af) Tryz.func230
end Z104
namespace Z105
def F (x0:eE):aI:=(call (Z89.R x0.aQ) fun v1=>(call (Z104.R x0) fun v2=>(cond (!v2) bV (ret v1.1.bz))))
def md (a0:aP):Int:=(cond (!(Z104.md a0)) ((-1):Int) ((Z89.md a0.aQ).1.bz))
def gd (a0:aP):Prop:=(aP.Sm (2^21) a0)
def R:=RR gd md
def ak {a0}(h:gd a0):R (aP.r a0)=some (md a0):=cV h
def aT:=CN [.agg uQ] oI RT.dec R
def aY (a0)(H0:gd a0):F (aP.r a0)=ret (md a0):=by
 refine ct (Z89.ak H0.1) (ct (Z104.ak H0) ?_)
 refine bs (fun _=>rfl) (fun c1=>?_)
 exact fz
def af:cz 229 aT:=W1 16 F mix aC aY (eP Z89.af Z104.af) Tryz.func229
end Z105
namespace Z106
inductive Pt where
 | p0 (a b:Int) (c:cZ)
def cu:Pt->List V
 | .p0 a b c=>[.int .i64 a,.cC 0 0,.int .i64 b]
def cR:Pt->List aW
 | .p0 a b c=>[.box [.sl none 215 c.bM,.int .i64 c.iG]]
def step (J:Pt->aI):Pt->aI
 | .p0 a b c=>(cond (b<(c.bM.length:Int)) (m2 b (c.bM.length:Int) (call (Z105.R (eE.at c.bM (toNat b))) fun v1=>(cond (v1==a) (cond (a>=0) (ret (b:Int)) (J (.p0 a (i64.wrap (b+1)) c))) (J (.p0 a (i64.wrap (b+1)) c))))) bV)
def start (J:Pt->aI)(x0:cZ)(x1:Int):aI:=J (.p0 x1 0 x0)
def live:Nat->Live:=fK [(2,gj [1,2,5])]
def md (a0:ay)(a1:Int):Int:=(ep (S:=Unit) (β:=Int) (fun i1 y1 s3=>(cond ((Z105.md y1)==a1) (cond (a1>=0) (.inr (i1)) (.inl ())) (.inl ()))) (fun s3=>((-1):Int)) 0 a0.bM ())
def gd (a0:ay)(a1:Int):Prop:=(ay.Sm (2^21) a0)
def R:=cm gd md
def ak {a0 a1}(h:gd a0 a1):R ((ay.r a0),a1)=some (md a0 a1):=cq h
def aT:=CN [.agg zG,pI] oI RT.dec R
def aY (a0)(a1)(H0:gd a0 a1):∃n,start (iter step n) (ay.r a0) a1=ret (md a0 a1):=by
 have Bh2:=bl H0
 refine ex_eq (dw (z:=aP.zero)) (eo fz ?_)
 refine cw (pt:=fun (i1:Nat) (s3:Unit)=>Pt.p0 a1 (i1:Int) (ay.r a0)) (fun _ _=>True) (fun J i1 s3 h2 hih2=>?_) (fun s3 hih2=>?_) trivial
 ·simp only [step,SS]
  refine bp.yes dt (bp.yes aD ?_)
  refine bp.yes (aK h2) (cr (Z105.ak (bN.getD H0 h2)) ?_)
  refine bp.bif (fun c4=>?_) (fun c4=>?_)
  ·refine bp.bif (fun c5=>bp.inr fz) (fun c5=>?_)
   refine bp.inl trivial ?_
   rw [aH h2 Bh2]
  ·refine bp.inl trivial ?_
   rw [aH h2 Bh2]
 ·simp only [step,SS]
  refine dO dn (⟨0,?_⟩)
  exact fz
def af:cz 176 aT:=L2 26 (fun _=>2) cu cR live step start mix aC aY (cD Z105.af) Tryz.func176
def fa (a0:ay)(a1:Int):-1<=md a0 a1/\md a0 a1<(a0.bM.length:Int):=by
 refine iO ?_ _ _
 all_goals
  intro i x s b h
  revert h
  simp only [Bool.cond_eq_ite]
  repeat' split
  all_goals (intro h;first | (cases h;rfl) | cases h)
end Z106
namespace Z107
inductive Pt where
 | p0 (a:aB) (b:aE) (c:Int)
def cu:Pt->List V
 | .p0 a b c=>[.sl none 38 a,.str b,.int .i64 c]
def step (J:Pt->aI):Pt->aI
 | .p0 a b c=>(cond (c<(a.length:Int)) (m2 c (a.length:Int) (cond ((bK.at a (toNat c)).aV==b) (ret (c:Int)) (J (.p0 a b (i64.wrap (c+1)))))) bV)
def start (J:Pt->aI)(x0:aB)(x1:aE):aI:=J (.p0 x0 x1 0)
def live:Nat->Live:=fK [(2,gj [0,1,5])]
def md (a0:List ah)(a1:aE):Int:=(ep (S:=Unit) (β:=Int) (fun i1 y1 s3=>(cond (y1.aV==a1) (.inr (i1)) (.inl ()))) (fun s3=>((-1):Int)) 0 a0 ())
def gd (a0:List ah)(a1:aE):Prop:=(bN (2^21) (fun y:ah=>ah.Sm (2^21) y) a0)
def R:=cm gd md
def ak {a0 a1}(h:gd a0 a1):R ((a0.map ah.row),a1)=some (md a0 a1):=cq h
def aT:=CN [pL 38,pS] oI RT.dec R
def aY (a0)(a1)(H0:gd a0 a1):∃n,start (iter step n) (a0.map ah.row) a1=ret (md a0 a1):=by
 have Bh2:=bl H0
 refine ex_eq (dw (z:=ah.zero)) (eo fz ?_)
 refine cw (pt:=fun (i1:Nat) (s3:Unit)=>Pt.p0 (a0.map ah.row) a1 (i1:Int)) (fun _ _=>True) (fun J i1 s3 h2 hih2=>?_) (fun s3 hih2=>?_) trivial
 ·simp only [step,SS]
  refine bp.yes dt (bp.yes aD ?_)
  refine bp.yes (aK h2) (bp.bif (fun c4=>bp.inr fz) (fun c4=>?_))
  refine bp.inl trivial ?_
  rw [aH h2 Bh2]
 ·simp only [step,SS]
  refine dO dn (⟨0,?_⟩)
  exact fz
def af:cz 231 aT:=L2 20 (fun _=>2) cu (fun _=>[]) live step start mix aC aY .nil Tryz.func231
def fa (a0:List ah)(a1:aE):-1<=md a0 a1/\md a0 a1<(a0.length:Int):=by
 refine iO ?_ _ _
 all_goals
  intro i x s b h
  revert h
  simp only [Bool.cond_eq_ite]
  repeat' split
  all_goals (intro h;first | (cases h;rfl) | cases h)
end Z107
namespace Z108
inductive Pt where
 | p0 (a:Int) (b c:aB)
 | p1 (a:Int) (b c:aB)
def cu:Pt->List V
 | .p0 a b c=>[.int .i64 a,.own 0,.sl none 3 b]
 | .p1 a b c=>[.int .i64 a,.own 0,.own 1]
def cR:Pt->List aW
 | .p0 a b c=>[.row 3 c]
 | .p1 a b c=>[.row 3 b,.row 3 c]
def step (J:Pt->aI):Pt->aI
 | .p0 a b c=>(cond ((b.length:Int)>1) (cond ((i64.wrap ((i64.wrap (a+1)) - (i64.wrap (2*(Int.tmod a 2)))))<(b.length:Int)) (bY ((0:Int)<=(i64.wrap ((i64.wrap (a+1)) - (i64.wrap (2*(Int.tmod a 2)))))) (bY ((i64.wrap ((i64.wrap (a+1)) - (i64.wrap (2*(Int.tmod a 2)))))<(b.length:Int)) (bY (fJ (((c.length:Int)+1)*8)) (call (Z99.R b) fun v1=>J (.p1 (i64.wrap (Int.tdiv a 2)) (c++[[L.int (kr b (toNat (i64.wrap ((i64.wrap (a+1)) - (i64.wrap (2*(Int.tmod a 2)))))))]]) v1))))) (call (Z99.R b) fun v2=>J (.p1 (i64.wrap (Int.tdiv a 2)) c v2))) (ret (c:aB)))
 | .p1 a b c=>(cond ((c.length:Int)>1) (cond ((i64.wrap ((i64.wrap (a+1)) - (i64.wrap (2*(Int.tmod a 2)))))<(c.length:Int)) (bY ((0:Int)<=(i64.wrap ((i64.wrap (a+1)) - (i64.wrap (2*(Int.tmod a 2)))))) (bY ((i64.wrap ((i64.wrap (a+1)) - (i64.wrap (2*(Int.tmod a 2)))))<(c.length:Int)) (bY (fJ (((b.length:Int)+1)*8)) (call (Z99.R c) fun v1=>J (.p1 (i64.wrap (Int.tdiv a 2)) (b++[[L.int (kr c (toNat (i64.wrap ((i64.wrap (a+1)) - (i64.wrap (2*(Int.tmod a 2)))))))]]) v1))))) (call (Z99.R c) fun v2=>J (.p1 (i64.wrap (Int.tdiv a 2)) b v2))) (ret (b:aB)))
def start (J:Pt->aI)(x0:aB)(x1:Int):aI:=(call (Z59.R (x1,0,(i64.wrap (x0.length - 1)))) fun v1=>(cond (!v1) (ret ([]:aB)) (J (.p0 x1 x0 []))))
def live:Nat->Live:=fK [(5,[(1,none),(5,some 3),(6,none)])]
def xh (i:Nat):Nat:=if i % 2=0 then i+1 else i - 1
def xd (i:Nat)(l c:List Int):List Int:=if xh i<l.length then c++[l.getD (xh i) 0] else c
def AL:Nat->Nat->List Int->List Int->List Int
 | 0,_,_,c=>c
 | k+1,i,l,c=>if l.length>1 then AL k (i / 2) (Z99.up l) (xd i l c) else c
def uF:∀(k i:Nat) (l c:List Int),(AL k i l c).length<=c.length+k
 | 0,_,_,c=>Nat.le_refl _
 | k+1,i,l,c=>by
  unfold AL
  by_cases h:l.length>1
  ·rw [if_pos h]
   have:=uF k (i / 2) (Z99.up l) (xd i l c)
   have h2:(xd i l c).length<=c.length+1:=by unfold xd;split<;>simp
   omega
  ·rw [if_neg h];omega
def half (i:Nat)(h:i<2^40):i64.wrap (Int.tdiv (i:Int) 2)=((i / 2:Nat):Int):=by
 rw [show Int.tdiv (i:Int) 2=((i / 2:Nat):Int) from rfl,wi _ (by omega)]
def Cs (i:Nat)(h:i<2^40):i64.wrap (i64.wrap ((i:Int)+1) - i64.wrap (2*Int.tmod (i:Int) 2))=((xh i:Nat):Int):=by
 rw [show Int.tmod (i:Int) 2=((i % 2:Nat):Int) from rfl,wi ((i:Int)+1) (by omega),wi (2*((i % 2:Nat):Int)) (by omega),wi _ (by omega)]
 unfold xh
 split<;>omega
def md (a0:List Int)(a1:Int):List Int:=bif Z59.md a1 0 (i64.wrap (a0.length - 1)) then AL a0.length a1.toNat a0 [] else []
def gd (a0:List Int)(a1:Int):Prop:=bN (2^38) (fun y:Int=>True) a0
def R:=cm gd md
def ak {a0 a1}(h:gd a0 a1):R ((a0.map bt),a1)=some ((md a0 a1).map bt):=cq h
def aT:=CN [pL 3,pI] (oL 3) RT.dec R
def aY (a0)(a1)(hg:gd a0 a1):∃n,start (iter step n) (a0.map bt) a1=ret ((md a0 a1).map bt):=by
 have one:∀(i:Nat) (l c r:List Int) (n:Nat),bN (2^38) (fun y:Int=>True) l->i<2^40->c.length<2^40->(if l.length>1 then iter step n (Pt.p1 ((i / 2:Nat):Int) ((xd i l c).map bt) ((Z99.up l).map bt))=ret (r.map bt) else c=r)->
   step (iter step n) (Pt.p0 (i:Int) (l.map bt) (c.map bt))=ret (r.map bt)/\step (iter step n) (Pt.p1 (i:Int) (c.map bt) (l.map bt))=ret (r.map bt):=by
  intro i l c r n hl hi hc h
  have hs:=Cs i hi
  have hd:=half i hi
  refine ⟨?_,?_⟩
  all_goals
   simp only [step,MM,List.length_map,iC,hs,hd,cM]
   by_cases h1:l.length>1
   ·rw [if_pos h1] at h
    rw [decide_eq_true (show (l.length:Int)>1 by omega),aZ]
    by_cases h2:xh i<l.length
    ·rw [xd,if_pos h2,List.map_append] at h
     rw [decide_eq_true (show ((xh i:Nat):Int)<(l.length:Int) by omega),aZ,decide_eq_true (show (0:Int)<=((xh i:Nat):Int) by omega),aZ,aZ,iV (by omega),aZ]
     exact aU _ (Z99.ak hl) h
    ·rw [xd,if_neg h2] at h
     rw [decide_eq_false (show ¬((xh i:Nat):Int)<(l.length:Int) by omega),aX]
     exact aU _ (Z99.ak hl) h
   ·rw [if_neg h1] at h
    rw [decide_eq_false (show ¬(l.length:Int)>1 by omega),aX,h]
 have key:∀(k i:Nat) (l c:List Int),bN (2^38) (fun y:Int=>True) l->l.length<=k->i<2^40->c.length+k<2^40->
   ∃n,step (iter step n) (Pt.p0 (i:Int) (l.map bt) (c.map bt))=ret ((AL k i l c).map bt)/\step (iter step n) (Pt.p1 (i:Int) (c.map bt) (l.map bt))=ret ((AL k i l c).map bt):=by
  intro k
  induction k with
  | zero=>intro i l c hl hk hi hc;exact ⟨0,one i l c _ 0 hl hi (by omega) (by rw [if_neg (by omega)];rfl)⟩
  | succ k ih=>
   intro i l c hl hk hi hc
   unfold AL
   by_cases h1:l.length>1
   ·have hu:=Z99.lK l
    have hl1:=hl.1
    have h2:(xd i l c).length<=c.length+1:=by unfold xd;split<;>simp
    obtain ⟨n,_,hn⟩:=ih (i / 2) (Z99.up l) (xd i l c) ⟨by omega,fun _ _=>trivial⟩ (by omega) (by omega) (by omega)
    rw [if_pos h1]
    exact ⟨n+1,one i l c _ (n+1) hl hi (by omega) (by rw [if_pos h1];exact hn)⟩
   ·rw [if_neg h1]
    exact ⟨0,one i l c _ 0 hl hi (by omega) (by rw [if_neg h1])⟩
 unfold start md
 simp only [List.length_map]
 have hlen:=hg.1
 cases h:Z59.md a1 0 (i64.wrap ((a0.length:Int) - 1))
 ·exact ⟨0,aU false (by rw [<-h];exact Z59.ak trivial) rfl⟩
 ·have hh:=h
  rw [wi _ (by omega)] at hh
  simp [Z59.md] at hh
  obtain ⟨i,rfl⟩:=Int.eq_ofNat_of_zero_le hh.1
  obtain ⟨n,hn,_⟩:=key a0.length i a0 [] hg (Nat.le_refl _) (by omega) (by simp only [List.length_nil];omega)
  exact ⟨n+1,aU true (by rw [<-h];exact Z59.ak trivial) hn⟩
def af:cz 285 aT:=L2 42 (fun _=>5) cu cR live step start mix aC aY (eP Z59.af Z99.af) Tryz.func285
def len (a0:List Int)(a1:Int):(md a0 a1).length<=a0.length:=by
 unfold md
 cases Z59.md _ 0 _
 ·exact zero_le _
 ·exact le_trans (uF _ _ _ _) (by simp)
end Z108
namespace Z109
def F (x0:aB)(x1:aE):aI:=(call (Z107.R (x0,x1)) fun v1=>(cond (v1<0) (ret (((⟨0,[]⟩),false):dX×Bool)) (call (Z97.R x0) fun v2=>(call (Z108.R (v2,v1)) fun v3=>ret (((⟨v1,v3⟩),true):dX×Bool)))))
def md (a0:List ah)(a1:aE):aL×Bool:=(cond ((Z107.md a0 a1)<0) ((⟨0,[]⟩),false) ((⟨(Z107.md a0 a1),(Z108.md (Z97.md a0) (Z107.md a0 a1))⟩),true))
def gd (a0:List ah)(a1:aE):Prop:=(bN (2^21) (fun y:ah=>ah.Sm (2^21) y) a0)
def R:=cm gd md
def ak {a0 a1}(h:gd a0 a1):R ((a0.map ah.row),a1)=some ((aL.r (md a0 a1).1),(md a0 a1).2):=cq h
def aT:=CN [pL 38,pS] (.iS [(true,f122),(false,[fB])]) RT.dec R
def aY (a0)(a1)(H0:gd a0 a1):F (a0.map ah.row) a1=ret ((aL.r (md a0 a1).1),(md a0 a1).2):=by
 refine ct (Z107.ak H0) (ec (fun b:aL×Bool=>ret (((aL.r b.1),b.2):dX×Bool)) (fun c1=>fz) (fun c1=>?_))
 refine ct (Z97.ak H0) (ct (Z108.ak ⟨(have:=Z97.len a0;have:=(H0).1;om),fun _ _=>trivial⟩) ?_)
 exact fz
def af:cz 232 aT:=W2 19 F mix aC aY (kC Z107.af Z97.af Z108.af) Tryz.func232
def iR {a0:List ah}{a1:aE}(hg:gd a0 a1):aL.Sm (2^21) ((md a0 a1).1):=by
 unfold gd at hg;unfold md
 cases decide (Z107.md a0 a1<0)
 ·refine ⟨?_,fun _ _=>trivial⟩
  have h:=Z108.len (Z97.md a0) (Z107.md a0 a1)
  rw [Z97.len] at h
  exact le_trans h hg.1
 ·exact bN.nil
def sz (a0:List ah)(a1:aE):aL.size (md a0 a1).1<=a0.length:=by
 unfold aL.size md
 rw [rN]
 cases decide (Z107.md a0 a1<0)
 ·have:=Z108.len (Z97.md a0) (Z107.md a0 a1)
  rw [Z97.len] at this
  exact this
 ·exact zero_le _
end Z109
namespace Z110
inductive Pt where
 | p0 (a:aB) (b:aE) (c d:Int)
def cu:Pt->List V
 | .p0 a b c d=>[.sl none 38 a,.str b,.int .i64 c,.int .i64 d]
def step (J:Pt->aI):Pt->aI
 | .p0 a b c d=>(cond (d<(a.length:Int)) (m2 d (a.length:Int) (call (Z91.R ((bK.at a (toNat d)).aV,b)) fun v1=>(cond (v1<0) (J (.p0 a b (i64.wrap (c+1)) (i64.wrap (d+1)))) (J (.p0 a b c (i64.wrap (d+1))))))) (ret (c:Int)))
def start (J:Pt->aI)(x0:aB)(x1:aE):aI:=J (.p0 x0 x1 0 0)
def live:Nat->Live:=fK [(3,gj [0,1,5,6])]
def md (a0:List ah)(a1:aE):Int:=(eJ (S:=Int) (β:=Int) (fun y1 s3=>(cond ((Z91.md (y1.aV) a1)<0) (.inl (i64.wrap (s3+1))) (.inl s3))) (fun s3=>s3) a0 0)
def gd (a0:List ah)(a1:aE):Prop:=(bN (2^21) (fun y:ah=>ah.Sm (2^21) y) a0)
def R:=cm gd md
def ak {a0 a1}(h:gd a0 a1):R ((a0.map ah.row),a1)=some (md a0 a1):=cq h
def aT:=CN [pL 38,pS] oI RT.dec R
def aY (a0)(a1)(H0:gd a0 a1):∃n,start (iter step n) (a0.map ah.row) a1=ret (md a0 a1):=by
 have Bh2:=bl H0
 refine ex_eq (fu (z:=ah.zero)) (eo fz ?_)
 refine cw (pt:=fun (i1:Nat) (s3:Int)=>Pt.p0 (a0.map ah.row) a1 s3 (i1:Int)) (fun _ _=>True) (fun J i1 s3 h2 hih2=>?_) (fun s3 hih2=>?_) trivial
 ·simp only [step,SS]
  refine bp.yes dt (bp.yes aD ?_)
  refine bp.yes (aK h2) (cr (Z91.ak trivial) ?_)
  refine bp.bif (fun c4=>?_) (fun c4=>?_)
  ·refine bp.inl trivial ?_
   rw [aH h2 Bh2]
  ·refine bp.inl trivial ?_
   rw [aH h2 Bh2]
 ·simp only [step,SS]
  refine dO dn (⟨0,?_⟩)
  exact fz
def af:cz 288 aT:=L2 24 (fun _=>3) cu (fun _=>[]) live step start mix aC aY (cD Z91.af) Tryz.func288
def fa (a0:List ah)(a1:aE):a0.length<=2^21->0<=md a0 a1/\md a0 a1<=(a0.length:Int):=fun hl=>by
 have key:∀(xs:List ah) (s:Int),0<=s->s+xs.length<=2^22->0<=eJ (S:=Int) (β:=Int) (fun (y1:ah) (s3:Int)=>(cond ((Z91.md (y1.aV) a1)<0) (.inl (i64.wrap (s3+1))) (.inl s3))) (fun (s3:Int)=>(s3:Int)) xs s/\eJ (S:=Int) (β:=Int) (fun (y1:ah) (s3:Int)=>(cond ((Z91.md (y1.aV) a1)<0) (.inl (i64.wrap (s3+1))) (.inl s3))) (fun (s3:Int)=>(s3:Int)) xs s<=s+xs.length:=by
  intro xs
  induction xs with
  | nil=>intro s h0 h1;exact ⟨h0,by simp [eJ]⟩
  | cons x xs ih=>
   intro s h0 h1
   simp only [List.length_cons] at h1 ⊢
   unfold eJ
   cases decide (Z91.md x.aV a1<0)
   ·have:=ih s h0 (by omega)
    simp only [aX]
    omega
   ·have:=ih (s+1) (by omega) (by omega)
    simp only [aZ]
    rw [wi _ (by omega)]
    omega
 have:=key a0 0 (Int.le_refl _) (by omega)
 unfold md
 omega
end Z110
namespace Z111
def F (x0:aB)(x1:aE):aI:=(call (Z92.R x0) fun v1=>(cond (!v1) (ret (((⟨0,(⟨(⟨#[]⟩:aE),0,0,[]⟩),(⟨(⟨#[]⟩:aE),0,0,[]⟩),(⟨0,[]⟩),(⟨0,[]⟩)⟩),false):ff×Bool)) (call (Z60.R x1) fun v2=>(cond (!v2) (ret (((⟨0,(⟨(⟨#[]⟩:aE),0,0,[]⟩),(⟨(⟨#[]⟩:aE),0,0,[]⟩),(⟨0,[]⟩),(⟨0,[]⟩)⟩),false):ff×Bool)) (call (Z107.R (x0,x1)) fun v3=>(cond (v3>=0) (ret (((⟨0,(⟨(⟨#[]⟩:aE),0,0,[]⟩),(⟨(⟨#[]⟩:aE),0,0,[]⟩),(⟨0,[]⟩),(⟨0,[]⟩)⟩),false):ff×Bool)) (call (Z110.R (x0,x1)) fun v4=>(cond (v4>0) (bY ((0:Int)<=(i64.wrap (v4 - 1))) (bY ((i64.wrap (v4 - 1))<x0.length) (call (Z54.R (bK.at x0 (toNat (i64.wrap (v4 - 1))))) fun v5=>(bY ((0:Int)<=(i64.wrap (v4 - 1))) (bY ((i64.wrap (v4 - 1))<x0.length) (call (Z109.R (x0,(bK.at x0 (toNat (i64.wrap (v4 - 1)))).aV)) fun v6=>(cond (v4<x0.length) (m2 v4 x0.length (call (Z54.R (bK.at x0 (toNat v4))) fun v7=>(m2 v4 x0.length (call (Z109.R (x0,(bK.at x0 (toNat v4)).aV)) fun v8=>ret (((⟨v4,v5,v7,v6.1,v8.1⟩),true):ff×Bool))))) (ret (((⟨v4,v5,(⟨(⟨#[]⟩:aE),0,0,[]⟩),v6.1,(⟨0,[]⟩)⟩),true):ff×Bool))))))))) (cond (v4<x0.length) (m2 v4 x0.length (call (Z54.R (bK.at x0 (toNat v4))) fun v9=>(m2 v4 x0.length (call (Z109.R (x0,(bK.at x0 (toNat v4)).aV)) fun v10=>ret (((⟨v4,(⟨(⟨#[]⟩:aE),0,0,[]⟩),v9,(⟨0,[]⟩),v10.1⟩),true):ff×Bool))))) (ret (((⟨v4,(⟨(⟨#[]⟩:aE),0,0,[]⟩),(⟨(⟨#[]⟩:aE),0,0,[]⟩),(⟨0,[]⟩),(⟨0,[]⟩)⟩),true):ff×Bool)))))))))))
def md (a0:List ah)(a1:aE):bL×Bool:=(cond (!(Z92.md a0)) ((⟨0,(⟨((⟨#[]⟩:aE)),0,0,[]⟩),(⟨((⟨#[]⟩:aE)),0,0,[]⟩),(⟨0,[]⟩),(⟨0,[]⟩)⟩),false) (cond (!(Z60.md a1)) ((⟨0,(⟨((⟨#[]⟩:aE)),0,0,[]⟩),(⟨((⟨#[]⟩:aE)),0,0,[]⟩),(⟨0,[]⟩),(⟨0,[]⟩)⟩),false) (cond ((Z107.md a0 a1)>=0) ((⟨0,(⟨((⟨#[]⟩:aE)),0,0,[]⟩),(⟨((⟨#[]⟩:aE)),0,0,[]⟩),(⟨0,[]⟩),(⟨0,[]⟩)⟩),false) (cond ((Z110.md a0 a1)>0) (cond ((Z110.md a0 a1)<a0.length) ((⟨(Z110.md a0 a1),(a0.getD (toNat (i64.wrap ((Z110.md a0 a1) - 1))) ah.zero),(a0.getD (toNat (Z110.md a0 a1)) ah.zero),(Z109.md a0 ((a0.getD (toNat (i64.wrap ((Z110.md a0 a1) - 1))) ah.zero).aV)).1,(Z109.md a0 ((a0.getD (toNat (Z110.md a0 a1)) ah.zero).aV)).1⟩),true) ((⟨(Z110.md a0 a1),(a0.getD (toNat (i64.wrap ((Z110.md a0 a1) - 1))) ah.zero),(⟨((⟨#[]⟩:aE)),0,0,[]⟩),(Z109.md a0 ((a0.getD (toNat (i64.wrap ((Z110.md a0 a1) - 1))) ah.zero).aV)).1,(⟨0,[]⟩)⟩),true)) (cond ((Z110.md a0 a1)<a0.length) ((⟨(Z110.md a0 a1),(⟨((⟨#[]⟩:aE)),0,0,[]⟩),(a0.getD (toNat (Z110.md a0 a1)) ah.zero),(⟨0,[]⟩),(Z109.md a0 ((a0.getD (toNat (Z110.md a0 a1)) ah.zero).aV)).1⟩),true) ((⟨(Z110.md a0 a1),(⟨((⟨#[]⟩:aE)),0,0,[]⟩),(⟨((⟨#[]⟩:aE)),0,0,[]⟩),(⟨0,[]⟩),(⟨0,[]⟩)⟩),true))))))
def gd (a0:List ah)(a1:aE):Prop:=(bN (2^21) (fun y:ah=>ah.Sm (2^21) y) a0)/\(a1.size<=(2^21))
def R:=cm gd md
def ak {a0 a1}(h:gd a0 a1):R ((a0.map ah.row),a1)=some ((bL.r (md a0 a1).1),(md a0 a1).2):=cq h
def aT:=CN [pL 38,pS] (.iS [(true,f124),(false,[fB])]) RT.dec R
def aY (a0)(a1)(hg:gd a0 a1):F (a0.map ah.row) a1=ret ((bL.r (md a0 a1).1),(md a0 a1).2):=by
 obtain ⟨H0,H1⟩:=hg
 unfold F md
 simp only [SS]
 refine ct (Z92.ak H0) (ec (fun b:bL×Bool=>ret (((bL.r b.1),b.2):ff×Bool)) (fun c1=>fz) (fun c1=>?_))
 refine ct (Z60.ak (le_trans H1 (by decide))) (ec (fun b:bL×Bool=>ret (((bL.r b.1),b.2):ff×Bool)) (fun c2=>fz) (fun c2=>?_))
 refine ct (Z107.ak H0) (ec (fun b:bL×Bool=>ret (((bL.r b.1),b.2):ff×Bool)) (fun c3=>fz) (fun c3=>?_))
 refine ct (Z110.ak H0) ?_
 have fv4_:=Z110.fa a0 a1
 refine ec (fun b:bL×Bool=>ret (((bL.r b.1),b.2):ff×Bool)) (fun c4=>?_) (fun c4=>?_)
 ·have dc4:=c4
  simp only [DC] at dc4
  refine aj (have:=(H0).1;dt) (aj (have:=(H0).1;have:=(H0).1;dt) ?_)
  refine ct (Z54.ak (bN.getD H0 (by have:=(H0).1;first | assumption | omega | (simp (disch:=omega) only [wi];omega) | (simp;omega)))) (aj (have:=(H0).1;dt) ?_)
  refine aj (have:=(H0).1;have:=(H0).1;dt) (ct (Z109.ak H0) ?_)
  refine ec (fun b:bL×Bool=>ret (((bL.r b.1),b.2):ff×Bool)) (fun c5=>?_) (fun c5=>fz)
  have dc5:=c5
  simp only [DC] at dc5
  refine aj dt (aj (have:=(H0).1;have:=(H0).1;dt) ?_)
  refine ct (Z54.ak (bN.getD H0 (by have:=(H0).1;first | assumption | omega | (simp (disch:=omega) only [wi];omega) | (simp;omega)))) (aj dt ?_)
  refine aj (have:=(H0).1;have:=(H0).1;dt) (ct (Z109.ak H0) ?_)
  exact fz
 ·refine ec (fun b:bL×Bool=>ret (((bL.r b.1),b.2):ff×Bool)) (fun c6=>?_) (fun c6=>fz)
  have dc6:=c6
  simp only [DC] at dc6
  refine aj (have:=(H0).1;dt) (aj (have:=(H0).1;have:=(H0).1;dt) ?_)
  refine ct (Z54.ak (bN.getD H0 (by have:=(H0).1;first | assumption | omega | (simp (disch:=omega) only [wi];omega) | (simp;omega)))) (aj (have:=(H0).1;dt) ?_)
  refine aj (have:=(H0).1;have:=(H0).1;dt) (ct (Z109.ak H0) ?_)
  exact fz
def af:cz 233 aT:=W2 71 F mix aC aY (AD Z92.af Z60.af Z107.af Z110.af Z54.af Z109.af) Tryz.func233
def iR {a0:List ah}{a1:aE}(hg:gd a0 a1):bL.Sm (2^21) ((md a0 a1).1):=by
 unfold gd at hg;unfold md
 have ez:ah.Sm (2^21) ⟨⟨#[]⟩,0,0,[]⟩:=⟨zero_le _,bN.nil⟩
 have pz:aL.Sm (2^21) ⟨0,[]⟩:=bN.nil
 have he:∀i,ah.Sm (2^21) (a0.getD i ah.zero):=fun i=>bN.sW hg.1 ez
 have hp:∀x,aL.Sm (2^21) (Z109.md a0 x).1:=fun x=>Z109.iR hg.1
 simp only [Bool.cond_eq_ite]
 repeat' split
 all_goals (refine ⟨?_,?_,?_,?_⟩<;>first | exact he _ | exact hp _ | exact ez | exact pz)
def sz (a0:List ah)(a1:aE):bL.size (md a0 a1).1<=4*eC (fun y:ah=>ah.size y) a0:=by
 have hl:a0.length<=eC (fun y:ah=>ah.size y) a0:=Nat.le_add_right _ _
 have he:∀i,ah.size (a0.getD i ah.zero)<=eC (fun y:ah=>ah.size y) a0:=fun i=>lF (f:=fun y:ah=>ah.size y) rfl
 have hp:∀x,aL.size (Z109.md a0 x).1<=a0.length:=fun x=>Z109.sz a0 x
 have hd:∀(n:Int) (b a:ah) (l r:aL),bL.size ⟨n,b,a,l,r⟩=ah.size b+ah.size a+aL.size l+aL.size r:=fun _ _ _ _ _=>rfl
 have e0:ah.size ⟨⟨#[]⟩,0,0,[]⟩=0:=rfl
 have p0:aL.size ⟨0,[]⟩=0:=rfl
 have h1:=he (toNat (i64.wrap ((Z110.md a0 a1) - 1)))
 have h2:=he (toNat (Z110.md a0 a1))
 have h3:=hp ((a0.getD (toNat (i64.wrap ((Z110.md a0 a1) - 1))) ah.zero).aV)
 have h4:=hp ((a0.getD (toNat (Z110.md a0 a1)) ah.zero).aV)
 unfold md
 simp only [Bool.cond_eq_ite]
 repeat' split
 all_goals simp only [hd,e0,p0]
 all_goals omega
end Z111
namespace Z112
def F (x0:eE)(x1:aE):aI:=(call (Z104.R x0) fun v1=>(cond (!v1) (ret ((⟨[],false,(⟨(⟨#[]⟩:aE),0,0,[]⟩),(⟨0,[]⟩),(⟨0,(⟨(⟨#[]⟩:aE),0,0,[]⟩),(⟨(⟨#[]⟩:aE),0,0,[]⟩),(⟨0,[]⟩),(⟨0,[]⟩)⟩)⟩):bq)) (call (Z60.R x1) fun v2=>(cond (!v2) (ret ((⟨[],false,(⟨(⟨#[]⟩:aE),0,0,[]⟩),(⟨0,[]⟩),(⟨0,(⟨(⟨#[]⟩:aE),0,0,[]⟩),(⟨(⟨#[]⟩:aE),0,0,[]⟩),(⟨0,[]⟩),(⟨0,[]⟩)⟩)⟩):bq)) (call (Z50.R x0.aQ) fun v3=>(call (Z107.R (x0.bR,x1)) fun v4=>(cond (v4>=0) (m2 v4 x0.bR.length (call (Z54.R (bK.at x0.bR (toNat v4))) fun v5=>(call (Z109.R (x0.bR,x1)) fun v6=>ret ((⟨v3,true,v5,v6.1,(⟨0,(⟨(⟨#[]⟩:aE),0,0,[]⟩),(⟨(⟨#[]⟩:aE),0,0,[]⟩),(⟨0,[]⟩),(⟨0,[]⟩)⟩)⟩):bq)))) (call (Z111.R (x0.bR,x1)) fun v7=>ret ((⟨v3,false,(⟨(⟨#[]⟩:aE),0,0,[]⟩),(⟨0,[]⟩),v7.1⟩):bq)))))))))
def md (a0:aP)(a1:aE):aq:=(cond (!(Z104.md a0)) (⟨[],false,(⟨((⟨#[]⟩:aE)),0,0,[]⟩),(⟨0,[]⟩),(⟨0,(⟨((⟨#[]⟩:aE)),0,0,[]⟩),(⟨((⟨#[]⟩:aE)),0,0,[]⟩),(⟨0,[]⟩),(⟨0,[]⟩)⟩)⟩) (cond (!(Z60.md a1)) (⟨[],false,(⟨((⟨#[]⟩:aE)),0,0,[]⟩),(⟨0,[]⟩),(⟨0,(⟨((⟨#[]⟩:aE)),0,0,[]⟩),(⟨((⟨#[]⟩:aE)),0,0,[]⟩),(⟨0,[]⟩),(⟨0,[]⟩)⟩)⟩) (cond ((Z107.md a0.bR a1)>=0) (⟨a0.aQ,true,(a0.bR.getD (toNat (Z107.md a0.bR a1)) ah.zero),(Z109.md a0.bR a1).1,(⟨0,(⟨((⟨#[]⟩:aE)),0,0,[]⟩),(⟨((⟨#[]⟩:aE)),0,0,[]⟩),(⟨0,[]⟩),(⟨0,[]⟩)⟩)⟩) (⟨a0.aQ,false,(⟨((⟨#[]⟩:aE)),0,0,[]⟩),(⟨0,[]⟩),(Z111.md a0.bR a1).1⟩))))
def gd (a0:aP)(a1:aE):Prop:=(aP.Sm (2^21) a0)/\(a1.size<=(2^21))
def R:=cm gd md
def ak {a0 a1}(h:gd a0 a1):R ((aP.r a0),a1)=some (aq.r (md a0 a1)):=cq h
def aT:=CN [.agg uQ,pS] (.agg f126) RT.dec R
def aY (a0)(a1)(hg:gd a0 a1):F (aP.r a0) a1=ret (aq.r (md a0 a1)):=by
 obtain ⟨H0,H1⟩:=hg
 refine ct (Z104.ak H0) (bo (fun c1=>fz) (fun c1=>?_))
 refine ct (Z60.ak (le_trans H1 (by decide))) (bo (fun c2=>fz) (fun c2=>?_))
 refine ct (Z50.ak H0.1) ?_
 simp only [SS]
 refine ct (Z107.ak H0.2) ?_
 have fv4_:=Z107.fa a0.bR a1
 refine bo (fun c3=>?_) (fun c3=>ct (Z111.ak ⟨H0.2,H1⟩) fz)
 have dc3:=c3
 simp only [DC] at dc3
 refine aj dt (aj (have:=(H0.2).1;dt) ?_)
 refine ct (Z54.ak (bN.getD H0.2 (by omega))) (ct (Z109.ak H0.2) ?_)
 exact fz
def af:cz 177 aT:=W2 52 F mix aC aY (Ae Z104.af Z60.af Z50.af Z107.af Z54.af Z109.af Z111.af) Tryz.func177
def iR {a0:aP}{a1:aE}(hg:gd a0 a1):aq.Sm (2^21) (md a0 a1):=by
 unfold gd at hg;unfold md
 obtain ⟨⟨hc,hl⟩,_⟩:=hg
 have ez:ah.Sm (2^21) ⟨⟨#[]⟩,0,0,[]⟩:=⟨zero_le _,bN.nil⟩
 have pz:aL.Sm (2^21) ⟨0,[]⟩:=bN.nil
 have gz:bL.Sm (2^21) ⟨0,⟨⟨#[]⟩,0,0,[]⟩,⟨⟨#[]⟩,0,0,[]⟩,⟨0,[]⟩,⟨0,[]⟩⟩:=⟨ez,ez,pz,pz⟩
 have he:∀i,ah.Sm (2^21) (a0.bR.getD i ah.zero):=fun i=>bN.sW hl ez
 have hp:∀x,aL.Sm (2^21) (Z109.md a0.bR x).1:=fun x=>Z109.iR hl
 have hga:bL.Sm (2^21) (Z111.md a0.bR a1).1:=Z111.iR ⟨hl,by assumption⟩
 simp only [Bool.cond_eq_ite]
 repeat' split
 all_goals (refine ⟨?_,?_,?_,?_⟩<;>first | exact hc | exact bN.nil | exact he _ | exact hp _ | exact hga | exact ez | exact pz | exact gz)
def sz (a0:aP)(a1:aE):aq.size (md a0 a1)<=6*aP.size a0:=by
 have hz:aP.size a0=eC (fun y:aa=>aa.size y) a0.aQ+eC (fun y:ah=>ah.size y) a0.bR:=rfl
 have hl:a0.bR.length<=eC (fun y:ah=>ah.size y) a0.bR:=Nat.le_add_right _ _
 have he:∀i,ah.size (a0.bR.getD i ah.zero)<=eC (fun y:ah=>ah.size y) a0.bR:=fun i=>lF (f:=fun y:ah=>ah.size y) rfl
 have hp:=Z109.sz a0.bR a1
 have hg:=Z111.sz a0.bR a1
 have hd:∀(c:List aa) (f:Bool) (e:ah) (p:aL) (g:bL),aq.size ⟨c,f,e,p,g⟩=eC (fun y:aa=>aa.size y) c+ah.size e+aL.size p+bL.size g:=fun _ _ _ _ _=>rfl
 have e0:ah.size ⟨⟨#[]⟩,0,0,[]⟩=0:=rfl
 have p0:aL.size ⟨0,[]⟩=0:=rfl
 have g0:bL.size ⟨0,⟨⟨#[]⟩,0,0,[]⟩,⟨⟨#[]⟩,0,0,[]⟩,⟨0,[]⟩,⟨0,[]⟩⟩=0:=rfl
 have c0:eC (fun y:aa=>aa.size y) []=0:=rfl
 have h1:=he (toNat (Z107.md a0.bR a1))
 unfold md
 simp only [Bool.cond_eq_ite]
 repeat' split
 all_goals simp only [hd,e0,p0,g0,c0]
 all_goals omega
end Z112
namespace Z113
def F (x0:cZ)(x1:Int)(x2:aE):aI:=(call (Z106.R (x0,x1)) fun v1=>(cond (v1<0) (ret ((⟨[],false,(⟨(⟨#[]⟩:aE),0,0,[]⟩),(⟨0,[]⟩),(⟨0,(⟨(⟨#[]⟩:aE),0,0,[]⟩),(⟨(⟨#[]⟩:aE),0,0,[]⟩),(⟨0,[]⟩),(⟨0,[]⟩)⟩)⟩):bq)) (cond (x0.iG==4) (ret ((⟨[],false,(⟨(⟨#[]⟩:aE),0,0,[]⟩),(⟨0,[]⟩),(⟨0,(⟨(⟨#[]⟩:aE),0,0,[]⟩),(⟨(⟨#[]⟩:aE),0,0,[]⟩),(⟨0,[]⟩),(⟨0,[]⟩)⟩)⟩):bq)) (m2 v1 x0.bM.length (call (Z112.R ((eE.at x0.bM (toNat v1)),x2)) fun v2=>(cond (x0.iG==1) (ret ((⟨v2.aQ,v2.cj,(⟨v2.aS.aV,v2.aS.bJ,(i64.wrap (v2.aS.bX+1)),v2.aS.bh⟩),v2.dy,v2.dA⟩):bq)) (cond (x0.iG==2) (cond ((v2.aQ.length:Int)>0) (bY ((0:Int)<=(i64.wrap (v2.aQ.length - 1))) (bY ((i64.wrap (v2.aQ.length - 1))<=v2.aQ.length) (ret ((⟨(List.take (toNat (i64.wrap (v2.aQ.length - 1))) v2.aQ),v2.cj,v2.aS,v2.dy,v2.dA⟩):bq)))) (ret v2)) (cond (x0.iG==3) (ret ((⟨v2.aQ,false,(⟨(⟨#[]⟩:aE),0,0,[]⟩),(⟨0,[]⟩),(⟨0,(⟨(⟨#[]⟩:aE),0,0,[]⟩),(⟨(⟨#[]⟩:aE),0,0,[]⟩),(⟨0,[]⟩),(⟨0,[]⟩)⟩)⟩):bq)) (ret v2)))))))))
def pats:List gK:=[.agg [.sl 215,au],.rd (.int .i64),.rd (.str)]
def res:RP:=.agg [.fr 178,.rd (.bool),.rd (.str),.rd (.int .i64),.rd (.int .i64),.fr 9,.rd (.int .i64),.fr 3,.rd (.int .i64),.rd (.str),.rd (.int .i64),.rd (.int .i64),.fr 9,.rd (.str),.rd (.int .i64),.rd (.int .i64),.fr 9,.rd (.int .i64),.fr 3,.rd (.int .i64),.fr 3]
def md (a0:ay)(a1:Int)(a2:aE):aq:=(cond ((Z106.md a0 a1)<0) (⟨[],false,(⟨((⟨#[]⟩:aE)),0,0,[]⟩),(⟨0,[]⟩),(⟨0,(⟨((⟨#[]⟩:aE)),0,0,[]⟩),(⟨((⟨#[]⟩:aE)),0,0,[]⟩),(⟨0,[]⟩),(⟨0,[]⟩)⟩)⟩) (cond (a0.iG==4) (⟨[],false,(⟨((⟨#[]⟩:aE)),0,0,[]⟩),(⟨0,[]⟩),(⟨0,(⟨((⟨#[]⟩:aE)),0,0,[]⟩),(⟨((⟨#[]⟩:aE)),0,0,[]⟩),(⟨0,[]⟩),(⟨0,[]⟩)⟩)⟩) (cond (a0.iG==1) (⟨(Z112.md (a0.bM.getD (toNat (Z106.md a0 a1)) aP.zero) a2).aQ,(Z112.md (a0.bM.getD (toNat (Z106.md a0 a1)) aP.zero) a2).cj,(⟨(Z112.md (a0.bM.getD (toNat (Z106.md a0 a1)) aP.zero) a2).aS.aV,(Z112.md (a0.bM.getD (toNat (Z106.md a0 a1)) aP.zero) a2).aS.bJ,(i64.wrap ((Z112.md (a0.bM.getD (toNat (Z106.md a0 a1)) aP.zero) a2).aS.bX+1)),(Z112.md (a0.bM.getD (toNat (Z106.md a0 a1)) aP.zero) a2).aS.bh⟩),(Z112.md (a0.bM.getD (toNat (Z106.md a0 a1)) aP.zero) a2).dy,(Z112.md (a0.bM.getD (toNat (Z106.md a0 a1)) aP.zero) a2).dA⟩) (cond (a0.iG==2) (cond (((Z112.md (a0.bM.getD (toNat (Z106.md a0 a1)) aP.zero) a2).aQ.length:Int)>0) (⟨(List.take (toNat (i64.wrap (((Z112.md (a0.bM.getD (toNat (Z106.md a0 a1)) aP.zero) a2).aQ.length) - 1))) (Z112.md (a0.bM.getD (toNat (Z106.md a0 a1)) aP.zero) a2).aQ),(Z112.md (a0.bM.getD (toNat (Z106.md a0 a1)) aP.zero) a2).cj,(Z112.md (a0.bM.getD (toNat (Z106.md a0 a1)) aP.zero) a2).aS,(Z112.md (a0.bM.getD (toNat (Z106.md a0 a1)) aP.zero) a2).dy,(Z112.md (a0.bM.getD (toNat (Z106.md a0 a1)) aP.zero) a2).dA⟩) (Z112.md (a0.bM.getD (toNat (Z106.md a0 a1)) aP.zero) a2)) (cond (a0.iG==3) (⟨(Z112.md (a0.bM.getD (toNat (Z106.md a0 a1)) aP.zero) a2).aQ,false,(⟨((⟨#[]⟩:aE)),0,0,[]⟩),(⟨0,[]⟩),(⟨0,(⟨((⟨#[]⟩:aE)),0,0,[]⟩),(⟨((⟨#[]⟩:aE)),0,0,[]⟩),(⟨0,[]⟩),(⟨0,[]⟩)⟩)⟩) (Z112.md (a0.bM.getD (toNat (Z106.md a0 a1)) aP.zero) a2))))))
def gd (a0:ay)(a1:Int)(a2:aE):Prop:=(ay.Sm (2^21) a0)/\(a2.size<=(2^21))
def acc (ls:List L):cZ×Int×aE:=((cZ.dec ls),(dH 2 ls),(qX 3 ls))
def R:(cZ×Int×aE)->Option bq:=lp gd md
def ak {a0 a1 a2}(h:gd a0 a1 a2):R ((ay.r a0),a1,a2)=some (aq.r (md a0 a1 a2)):=kZ h
def aT:gh:=CN pats res acc R
def aY (a0:ay)(a1:Int)(a2:aE)(hg:gd a0 a1 a2):F (ay.r a0) a1 a2=ret ((aq.r (md a0 a1 a2)):bq):=by
 obtain ⟨H0,H2⟩:=hg
 unfold F md
 simp only [SS]
 refine ct (Z106.ak H0) ?_
 have fv1_:=Z106.fa a0 a1
 refine bo (fun c1=>fz) (fun c1=>?_)
 have dc1:=c1
 simp only [DC] at dc1
 refine bo (fun c2=>fz) (fun c2=>?_)
 refine aj dt (aj (have:=(H0).1;have:=(H0).1;dt) ?_)
 refine ct (Z112.ak ⟨(bN.getD H0 (by have:=(H0).1;first | assumption | omega | (simp (disch:=omega) only [wi];omega) | (simp;omega))),H2⟩) ?_
 simp only [SS]
 refine bo (fun c3=>fz) (fun c3=>?_)
 refine bo (fun c4=>?_) (fun c4=>?_)
 ·refine bo (fun c5=>?_) (fun c5=>fz)
  have dc5:=c5
  simp only [DC] at dc5
  refine aj (have:=((Z112.iR (a0:=a0.bM.getD (toNat (Z106.md a0 a1)) aP.zero) ⟨(bN.getD H0 (by have:=(H0).1;first | assumption | omega | (simp (disch:=omega) only [wi];omega) | (simp;omega))),H2⟩).1).1;have:=(H0).1;dt) (aj (have:=((Z112.iR (a0:=a0.bM.getD (toNat (Z106.md a0 a1)) aP.zero) ⟨(bN.getD H0 (by have:=(H0).1;first | assumption | omega | (simp (disch:=omega) only [wi];omega) | (simp;omega))),H2⟩).1).1;have:=(H0).1;dt) ?_)
  exact fz
 ·exact bo (fun c6=>fz) (fun c6=>fz)
def af:cz 136 aT:=VT (live:=fun _=>[]) (nt:=57) (run:=fun _ x=>F x.1 x.2.1 x.2.2) mix aC (eP Z106.af Z112.af) .nil Tryz.func136 (by kernel_rfl) (fun _ _=>by kernel_rfl) (fun _ a _ _ hg=>⟨0,aY a.1 a.2.1 a.2.2 hg⟩)
def iR {a0:ay}{a1:Int}{a2:aE}(hg:gd a0 a1 a2):aq.Sm (2^21) (md a0 a1 a2):=by
 unfold gd at hg;unfold md
 obtain ⟨hs,hl⟩:=hg
 have ez:ah.Sm (2^21) ⟨⟨#[]⟩,0,0,[]⟩:=⟨zero_le _,bN.nil⟩
 have pz:aL.Sm (2^21) ⟨0,[]⟩:=bN.nil
 have gz:bL.Sm (2^21) ⟨0,⟨⟨#[]⟩,0,0,[]⟩,⟨⟨#[]⟩,0,0,[]⟩,⟨0,[]⟩,⟨0,[]⟩⟩:=⟨ez,ez,pz,pz⟩
 have zz:aP.Sm (2^21) aP.zero:=⟨bN.nil,bN.nil⟩
 have ha:∀i,aq.Sm (2^21) (Z112.md (a0.bM.getD i aP.zero) a2):=fun i=>Z112.iR ⟨bN.sW hs zz,hl⟩
 have ht2:∀i n,bN (2^21) (fun y:aa=>aa.Sm (2^21) y) (List.take n (Z112.md (a0.bM.getD i aP.zero) a2).aQ):=fun i n=>⟨le_trans (by simp;omega) (ha i).1.1,fun x hx=>(ha i).1.2 x (List.mem_of_mem_take hx)⟩
 simp only [Bool.cond_eq_ite]
 repeat' split
 all_goals first | exact ha _ | (refine ⟨?_,?_,?_,?_⟩<;>first | exact ht _ _ | exact ht2 _ _ | exact bN.nil | exact (ha _).1 | exact (ha _).2.1 | exact (ha _).2.2.1 | exact (ha _).2.2.2 | exact ez | exact pz | exact gz)
def xT {α:Type}(f:α->Nat):∀(n:Nat) (xs:List α),eC f (xs.take n)<=eC f xs
 | 0,xs=>by simp [eC]
 | n+1,[]=>by simp [eC]
 | n+1,x::xs=>by
  have:=xT f n xs
  unfold eC at this ⊢
  simp only [List.take_succ_cons,List.length_cons,List.map_cons,List.sum_cons]
  omega
def sz (a0:ay)(a1:Int)(a2:aE):aq.size (md a0 a1 a2)<=6*ay.size a0:=by
 have hz:aP.size (a0.bM.getD (toNat (Z106.md a0 a1)) aP.zero)<=ay.size a0:=lF (f:=fun y:aP=>aP.size y) (xs:=a0.bM) rfl
 have hA:=Z112.sz (a0.bM.getD (toNat (Z106.md a0 a1)) aP.zero) a2
 have hd:∀(c:List aa) (f:Bool) (e:ah) (p:aL) (g:bL),aq.size ⟨c,f,e,p,g⟩=eC (fun y:aa=>aa.size y) c+ah.size e+aL.size p+bL.size g:=fun _ _ _ _ _=>rfl
 have he:∀(l:aE) (k v:Int) (p:List aE),ah.size ⟨l,k,v,p⟩=l.size+eC (fun y:aE=>y.size) p:=fun _ _ _ _=>rfl
 unfold md
 revert hA
 generalize Z112.md (a0.bM.getD (toNat (Z106.md a0 a1)) aP.zero) a2=A
 intro hA
 have hA2:aq.size A=eC (fun y:aa=>aa.size y) A.aQ+ah.size A.aS+aL.size A.dy+bL.size A.dA:=rfl
 have hE2:ah.size A.aS=A.aS.aV.size+eC (fun y:aE=>y.size) A.aS.bh:=rfl
 have ht:=fun n=>xT (fun y:aa=>aa.size y) n A.aQ
 have e0:ah.size ⟨⟨#[]⟩,0,0,[]⟩=0:=rfl
 have p0:aL.size ⟨0,[]⟩=0:=rfl
 have g0:bL.size ⟨0,⟨⟨#[]⟩,0,0,[]⟩,⟨⟨#[]⟩,0,0,[]⟩,⟨0,[]⟩,⟨0,[]⟩⟩=0:=rfl
 have c0:eC (fun y:aa=>aa.size y) []=0:=rfl
 have ht1:=ht (toNat (i64.wrap ((A.aQ.length:Int) - 1)))
 simp only [Bool.cond_eq_ite]
 repeat' split
 all_goals first
  | omega
  | (simp only [hd,e0,p0,g0,c0];omega)
  | (simp only [hd,he];omega)
end Z113
namespace Z114
inductive Pt where
 | p0 (a:aB) (b:Int) (c:aE) (d:Int) (e:aB)
def cu:Pt->List V
 | .p0 a b c d e=>[.sl none 138 a,.int .i64 b,.str c,.own 0,.int .i64 d]
def cR:Pt->List aW
 | .p0 a b c d e=>[.row 126 e]
def step (J:Pt->aI):Pt->aI
 | .p0 a b c d e=>(cond (d<(a.length:Int)) (cond (d<4) (m2 d (a.length:Int) (call (Z113.R ((cZ.at a (toNat d)),b,c)) fun v1=>(bY (fJ (((e.length:Int)+1)*304)) (J (.p0 a b c (i64.wrap (d+1)) (e++[(bq.enc v1)])))))) (ret (e:aB))) (ret (e:aB)))
def start (J:Pt->aI)(x0:aB)(x1:Int)(x2:aE):aI:=J (.p0 x0 x1 x2 0 [])
def live:Nat->Live:=fK [(3,[(0,none),(1,none),(2,none),(7,some 126),(8,none)])]
def md (a0:List ay)(a1:Int)(a2:aE):List aq:=(ep (S:=List aq) (β:=List aq) (fun i1 y1 (s3:List aq)=>(cond ((i1:Int)<4) (.inl (s3++[(Z113.md y1 a1 a2)])) (.inr s3))) (fun (s3:List aq)=>s3) 0 a0 [])
def gd (a0:List ay)(a1:Int)(a2:aE):Prop:=(bN (2^21) (fun y:ay=>ay.Sm (2^21) y) a0)/\(a2.size<=(2^21))
def R:=lp gd md
def ak {a0 a1 a2}(h:gd a0 a1 a2):R ((a0.map ay.row),a1,a2)=some ((md a0 a1 a2).map aq.row):=kZ h
def aT:=CN [pL 138,pI,pS] (oL 126) RT.dec R
def aY (a0)(a1)(a2)(hg:gd a0 a1 a2):∃n,start (iter step n) (a0.map ay.row) a1 a2=ret ((md a0 a1 a2).map aq.row):=by
 obtain ⟨H0,H2⟩:=hg
 have Bh2:=bl H0
 refine ex_eq (out:=(fun b:List aq=>ret ((b.map aq.row):aB))) (dw (z:=ay.zero)) (eo fz ?_)
 refine cw (pt:=fun (i1:Nat) (s3:List aq)=>Pt.p0 (a0.map ay.row) a1 a2 (i1:Int) (s3.map aq.row)) (s:=([]:List aq)) (out:=(fun b:List aq=>ret ((b.map aq.row):aB))) (fun (i1:Nat) (s3:List aq)=>s3.length<=([]:List Int).length+1*i1) (fun J i1 s3 h2 hih2=>?_) (fun s3 hih2=>?_) (by simp)
 ·simp only [step,SS]
  have gr_:=hih2
  simp only [LN] at gr_
  refine bp.yes dt (bp.bif (fun c4=>?_) (fun c4=>bp.inr fz))
  have dc4:=c4
  simp only [DC] at dc4
  refine bp.yes aD (bp.yes (aK h2) ?_)
  refine cr (Z113.ak ⟨(bN.getD H0 h2),H2⟩) (bp.yes lm ?_)
  refine bp.inl (by
    (simp;omega)) ?_
  rw [aH h2 Bh2]
  exact fz
 ·simp only [step,SS]
  refine dO dn (⟨0,?_⟩)
  exact fz
def af:cz 88 aT:=L3 31 (fun _=>3) cu cR live step start mix aC aY (cD Z113.af) Tryz.func88
def rA (a0:List ay)(a1:Int)(a2:aE):md a0 a1 a2=(a0.take 4).map (fun y=>Z113.md y a1 a2):=by
 have key:∀(xs:List ay) (i:Nat) (s:List aq),i<=4->ep (fun (i1:Nat) (y1:ay) (s3:List aq)=>(cond ((i1:Int)<4) (.inl (s3++[(Z113.md y1 a1 a2)])) (.inr s3))) (fun (s3:List aq)=>s3) i xs s=s++(xs.take (4 - i)).map (fun y=>Z113.md y a1 a2):=by
  intro xs
  induction xs with
  | nil=>intro i s _;simp [ep]
  | cons x xs ih=>
   intro i s hi
   unfold ep
   by_cases h:i<4
   ·rw [decide_eq_true (by omega)]
    simp only [aZ]
    rw [ih (i+1) _ (by omega),show 4 - i=(4 - (i+1))+1 by omega]
    simp
   ·rw [decide_eq_false (by omega),show 4 - i=0 by omega]
    simp
 exact (key a0 0 [] (by omega)).trans (by simp)
def iR {a0:List ay}{a1:Int}{a2:aE}(hg:gd a0 a1 a2):bN (2^21) (fun y:aq=>aq.Sm (2^21) y) (md a0 a1 a2):=by
 rw [rA]
 exact (bN.take hg.1).map fun x hx=>Z113.iR ⟨hx,hg.2⟩
def Bd (a0:List ay)(a1:Int)(a2:aE):(md a0 a1 a2).length<=4:=by
 rw [rA,List.length_map]
 exact le_trans (List.length_take_le _ _) (Nat.le_refl _)
def sz (a0:List ay)(a1:Int)(a2:aE):eC (fun y:aq=>aq.size y) (md a0 a1 a2)<=6*eC (fun y:ay=>ay.size y) a0:=by
 rw [rA]
 have key:∀xs:List ay,eC (fun y:aq=>aq.size y) (xs.map (fun y=>Z113.md y a1 a2))<=6*eC (fun y:ay=>ay.size y) xs:=by
  intro xs
  induction xs with
  | nil=>exact zero_le _
  | cons x xs ih=>
   have h:=Z113.sz x a1 a2
   unfold eC at ih ⊢
   simp only [List.map_cons,List.length_cons,List.sum_cons,List.length_map] at ih ⊢
   omega
 exact le_trans (key _) (Nat.mul_le_mul_left _ (Z113.xT _ _ _))
end Z114
namespace Z115
inductive Pt where
 | p0 (a b:Int) (c:bA)
def cu:Pt->List V
 | .p0 a b c=>[.int .i64 a,.cC 0 0,.int .i64 b]
def cR:Pt->List aW
 | .p0 a b c=>[.box [.sl none 120 c.aM,.sl none 180 c.bu]]
def step (J:Pt->aI):Pt->aI
 | .p0 a b c=>(cond (b<(c.aM.length:Int)) (m2 b (c.aM.length:Int) (cond (((qi c.aM (toNat b)).length:Int)>0) (m2 b (c.aM.length:Int) (bY ((0:Int)<((qi c.aM (toNat b)).length:Int)) (cond ((bf.at (qi c.aM (toNat b)) 0).an.bz==a) (ret (b:Int)) (J (.p0 a (i64.wrap (b+1)) c))))) (J (.p0 a (i64.wrap (b+1)) c)))) bV)
def start (J:Pt->aI)(x0:bA)(x1:Int):aI:=J (.p0 x1 0 x0)
def live:Nat->Live:=fK [(2,gj [1,2,5])]
def md (a0:aA)(a1:Int):Int:=(ep (S:=Unit) (β:=Int) (fun i1 (y1:List aa) s3=>(cond ((y1.length:Int)>0) (cond (((y1.getD 0 aa.zero).an).bz==a1) (.inr (i1)) (.inl ())) (.inl ()))) (fun s3=>((-1):Int)) 0 a0.aM ())
def gd (a0:aA)(a1:Int):Prop:=(aA.Sm (2^21) a0)
def R:=cm gd md
def ak {a0 a1}(h:gd a0 a1):R ((aA.r a0),a1)=some (md a0 a1):=cq h
def aT:=CN [.agg xg,pI] oI RT.dec R
def aY (a0)(a1)(H0:gd a0 a1):∃n,start (iter step n) (aA.r a0) a1=ret (md a0 a1):=by
 have Bh2:=bl H0.1
 refine ex_eq (dw (z:=[])) (eo fz ?_)
 refine cw (pt:=fun (i1:Nat) (s3:Unit)=>Pt.p0 a1 (i1:Int) (aA.r a0)) (fun _ _=>True) (fun J i1 s3 h2 hih2=>?_) (fun s3 hih2=>?_) trivial
 ·simp only [step,SS]
  refine bp.yes dt (bp.yes aD ?_)
  refine bp.yes (aK h2) (bp.bif (fun c4=>?_) (fun c4=>?_))
  ·have dc4:=c4
   simp only [DC] at dc4
   refine bp.yes aD (bp.yes (aK h2) ?_)
   refine bp.yes (have:=((bN.getD (z:=[]) H0.1 h2)).1;dt) (bp.bif (fun c5=>bp.inr fz) (fun c5=>?_))
   refine bp.inl trivial ?_
   rw [aH h2 Bh2]
  ·refine bp.inl trivial ?_
   rw [aH h2 Bh2]
 ·simp only [step,SS]
  refine dO dn (⟨0,?_⟩)
  exact fz
def af:cz 181 aT:=L2 34 (fun _=>2) cu cR live step start mix aC aY .nil Tryz.func181
def fa (a0:aA)(a1:Int):-1<=md a0 a1/\md a0 a1<(a0.aM.length:Int):=by
 refine iO ?_ _ _
 all_goals
  intro i x s b h
  revert h
  simp only [Bool.cond_eq_ite]
  repeat' split
  all_goals (intro h;first | (cases h;rfl) | cases h)
end Z115
namespace Z116
def F (x0 x1:dI):aI:=(call (Z71.R x0) fun v1=>(call (Z71.R x1) fun v2=>(call (Z80.R (v1,v2)) fun v3=>(cond v3 (ret ((x0.bD==x1.bD))) (ret false)))))
def md (a0 a1:aF):Bool:=(cond (Z80.md (Z71.md a0) (Z71.md a1)) ((a0.bD==a1.bD)) false)
def gd (a0 a1:aF):Prop:=(aF.Sm (2^21) a0)/\(aF.Sm (2^21) a1)
def R:=cm gd md
def ak {a0 a1}(h:gd a0 a1):R ((aF.r a0),(aF.r a1))=some (md a0 a1):=cq h
def aT:=CN [.agg gH,.agg gH] oB RT.dec R
def aY (a0)(a1)(hg:gd a0 a1):F (aF.r a0) (aF.r a1)=ret (md a0 a1):=by
 obtain ⟨H0,H1⟩:=hg
 refine ct (Z71.ak H0) (ct (Z71.ak H1) ?_)
 refine ct (Z80.ak ⟨⟨(have:=Z71.len a0;have:=(H0.1).1;have:=(H0.2.1).1;have:=(H0.2.2).1;om),fun _ _=>trivial⟩,⟨(have:=Z71.len a1;have:=(H1.1).1;have:=(H1.2.1).1;have:=(H1.2.2).1;om),fun _ _=>trivial⟩⟩) (bs (fun c1=>?_) (fun _=>rfl))
 exact fz
def af:cz 237 aT:=W2 17 F mix aC aY (eP Z71.af Z80.af) Tryz.func237
def md_eq (a0 a1:aF):md a0 a1=eu a0 a1:=by
 unfold md
 simp only [Z80.md_eq,bool_beq]
 rw [Bool.eq_iff_iff]
 constructor
 ·intro h
  cases he:eu (Z71.md a0) (Z71.md a1)<;>rw [he] at h
  ·cases h
  ·exact dm.2 (Z71.inj (dm.1 he))
 ·intro h
  rw [dm] at h
  rw [h,gL,gL];rfl
end Z116
namespace Z117
inductive Pt where
 | p0 (a b:aB) (c:Int)
def cu:Pt->List V
 | .p0 a b c=>[.sl none 178 a,.sl none 178 b,.int .i64 c]
def step (J:Pt->aI):Pt->aI
 | .p0 a b c=>(cond (c<(a.length:Int)) (m2 c (a.length:Int) (m2 c (b.length:Int) (call (Z116.R ((bf.at a (toNat c)).an,(bf.at b (toNat c)).an)) fun v1=>(cond (!v1) dx (J (.p0 a b (i64.wrap (c+1)))))))) gA)
def start (J:Pt->aI)(x0 x1:aB):aI:=(cond (x0.length>(x1.length:Int)) (ret false) (J (.p0 x0 x1 0)))
def live:Nat->Live:=fK [(4,gj [0,1,5])]
def md (a0 a1:List aa):Bool:=(bif (decide (a0.length>(a1.length:Int))) then false else (eX (S:=Unit) (β:=Bool) (fun i2 s4=>(cond (!(Z116.md ((a0.getD i2 aa.zero).an) ((a1.getD i2 aa.zero).an))) (.inr false) (.inl ()))) (fun s4=>true) a0.length 0 ()))
def gd (a0 a1:List aa):Prop:=(bN (2^21) (fun y:aa=>aa.Sm (2^21) y) a0)/\(bN (2^21) (fun y:aa=>aa.Sm (2^21) y) a1)
def R:=cm gd md
def ak {a0 a1}(h:gd a0 a1):R ((a0.map aa.row),(a1.map aa.row))=some (md a0 a1):=cq h
def aT:=CN [pL 178,pL 178] oB RT.dec R
def aY (a0)(a1)(hg:gd a0 a1):∃n,start (iter step n) (a0.map aa.row) (a1.map aa.row)=ret (md a0 a1):=by
 obtain ⟨H0,H1⟩:=hg
 unfold start md
 simp only [SS]
 refine iK ret (fun _=>⟨0,rfl⟩) (fun c1=>?_)
 have dc1:=c1
 simp only [DC] at dc1
 have Bh3:=bl H0
 refine eo fz (cw (pt:=fun (i2:Nat) (s4:Unit)=>Pt.p0 (a0.map aa.row) (a1.map aa.row) (i2:Int)) (fun _ _=>True) (fun J i2 s4 h3 hih3=>?_) (fun s4 hih3=>?_) trivial)
 ·simp only [step,SS]
  refine bp.yes dt (bp.yes aD ?_)
  refine bp.yes (aK h3) (bp.yes aD ?_)
  refine bp.yes dt (cr (Z116.ak ⟨(bN.getD H0 h3).1,(bN.getD H1 (by omega)).1⟩) ?_)
  refine bp.bif (fun _=>bp.inr rfl) (fun c5=>?_)
  refine bp.inl trivial ?_
  rw [aH h3 Bh3]
 ·simp only [step,SS]
  refine dO dn (⟨0,?_⟩)
  exact fz
def af:cz 236 aT:=L2 29 (fun _=>4) cu (fun _=>[]) live step start mix aC aY (cD Z116.af) Tryz.func236
end Z117
namespace Z118
def F (x0:bA)(x1:aB):aI:=(call (Z88.R x1) fun v1=>(cond (!v1) (ret (6:Int)) (bY ((0:Int)<x1.length) (call (Z115.R (x0,(bf.at x1 0).an.bz)) fun v2=>(cond (v2<0) (ret (1:Int)) (m2 v2 x0.aM.length (call (Z117.R ((qi x0.aM (toNat v2)),x1)) fun v3=>(m2 v2 x0.aM.length (call (Z117.R (x1,(qi x0.aM (toNat v2)))) fun v4=>(cond v3 (cond v4 (ret (2:Int)) (cond v3 (ret (3:Int)) (cond v4 (ret (4:Int)) (ret (5:Int))))) (cond v3 (ret (3:Int)) (cond v4 (ret (4:Int)) (ret (5:Int))))))))))))))
def md (a0:aA)(a1:List aa):Int:=(cond (!(Z88.md a1)) (6:Int) (cond ((Z115.md a0 (((a1.getD 0 aa.zero).an).bz))<0) (1:Int) (cond (Z117.md (a0.aM.getD (toNat (Z115.md a0 (((a1.getD 0 aa.zero).an).bz))) []) a1) (cond (Z117.md a1 (a0.aM.getD (toNat (Z115.md a0 (((a1.getD 0 aa.zero).an).bz))) [])) (2:Int) (cond (Z117.md (a0.aM.getD (toNat (Z115.md a0 (((a1.getD 0 aa.zero).an).bz))) []) a1) (3:Int) (cond (Z117.md a1 (a0.aM.getD (toNat (Z115.md a0 (((a1.getD 0 aa.zero).an).bz))) [])) (4:Int) (5:Int)))) (cond (Z117.md (a0.aM.getD (toNat (Z115.md a0 (((a1.getD 0 aa.zero).an).bz))) []) a1) (3:Int) (cond (Z117.md a1 (a0.aM.getD (toNat (Z115.md a0 (((a1.getD 0 aa.zero).an).bz))) [])) (4:Int) (5:Int))))))
def gd (a0:aA)(a1:List aa):Prop:=(aA.Sm (2^21) a0)/\(bN (2^21) (fun y:aa=>aa.Sm (2^21) y) a1)
def R:=cm gd md
def ak {a0 a1}(h:gd a0 a1):R ((aA.r a0),(a1.map aa.row))=some (md a0 a1):=cq h
def aT:=CN [.agg xg,pL 178] oI RT.dec R
def aY (a0)(a1)(hg:gd a0 a1):F (aA.r a0) (a1.map aa.row)=ret (md a0 a1):=by
 obtain ⟨H0,H1⟩:=hg
 unfold F md
 simp only [SS]
 refine ct (Z88.ak H1) (bs (fun _=>rfl) (fun c1=>?_))
 have tc1:=Z88.tr (by simpa using c1)
 refine aj dt (ct (Z115.ak H0) ?_)
 have fv2_:=Z115.fa a0 (((a1.getD 0 aa.zero).an).bz)
 refine bs (fun _=>rfl) (fun c2=>?_)
 have dc2:=c2
 simp only [DC] at dc2
 refine aj dt (aj (have:=(H0.1).1;dt) ?_)
 refine ct (Z117.ak ⟨(bN.getD H0.1 (by omega)),H1⟩) (aj dt ?_)
 refine aj (have:=(H0.1).1;dt) (ct (Z117.ak ⟨H1,(bN.getD H0.1 (by omega))⟩) ?_)
 refine bs (fun c3=>?_) (fun c3=>?_)
 ·refine bs (fun _=>rfl) (fun c4=>?_)
  refine bs (fun _=>rfl) (fun c5=>?_)
  refine bs (fun _=>rfl) (fun _=>rfl)
 ·refine bs (fun _=>rfl) (fun c7=>?_)
  refine bs (fun _=>rfl) (fun _=>rfl)
def af:cz 180 aT:=W2 43 F mix aC aY (kC Z88.af Z115.af Z117.af) Tryz.func180
def fa (a0:aA)(a1:List aa):(md a0 a1=3->1<=a1.length/\0<=Z115.md a0 (a1.getD 0 aa.zero).an.bz)/\(md a0 a1=5->1<=a1.length/\0<=Z115.md a0 (a1.getD 0 aa.zero).an.bz):=by
 unfold md
 cases h:Z88.md a1
 ·exact ⟨fun h=>by simp at h,fun h=>by simp at h⟩
 ·have t:=Z88.tr h
  cases hf:decide (Z115.md a0 ((a1.getD 0 aa.zero).an.bz)<0)
  ·have:=of_decide_eq_false hf
   exact ⟨fun _=>⟨t.1,by omega⟩,fun _=>⟨t.1,by omega⟩⟩
  ·exact ⟨fun h=>by simp at h,fun h=>by simp at h⟩
end Z118
namespace Z119
inductive Pt where
 | p0 (a b:aB) (c d e f g h i j k l m n o:Int) (p:Bool) (q s t u v w y z w24 w25 w26 w27:Int) (w28:Bool) (w29 w30 w31 w32 w33 w34 w35 w36 w37 w38 w39 w40:Int) (w41:Bool)
def cu:Pt->List V
 | .p0 a b c d e f g h i j k l m n o p q s t u v w y z w24 w25 w26 w27 w28 w29 w30 w31 w32 w33 w34 w35 w36 w37 w38 w39 w40 w41=>[.sl none 178 a,.sl none 178 b,.cC 0 0,.int .i64 c]
def cR:Pt->List aW
 | .p0 a b c d e f g h i j k l m n o p q s t u v w y z w24 w25 w26 w27 w28 w29 w30 w31 w32 w33 w34 w35 w36 w37 w38 w39 w40 w41=>[.box [.int .i64 d,.int .i64 e,.int .i64 f,.int .i64 g,.int .i64 h,.int .i64 i,.int .i64 j,.int .i64 k,.nil,.int .i64 l,.nil,.int .i64 m,.int .i64 n,.nil,.int .i64 o,.bool p,.nil,.int .i64 q,.int .i64 s,.int .i64 t,.int .i64 u,.int .i64 v,.int .i64 w,.int .i64 y,.int .i64 z,.nil,.int .i64 w24,.nil,.int .i64 w25,.int .i64 w26,.nil,.int .i64 w27,.bool w28,.nil,.int .i64 w29,.int .i64 w30,.int .i64 w31,.int .i64 w32,.int .i64 w33,.int .i64 w34,.int .i64 w35,.int .i64 w36,.nil,.int .i64 w37,.nil,.int .i64 w38,.int .i64 w39,.nil,.int .i64 w40,.bool w41,.nil]]
def step (J:Pt->aI):Pt->aI
 | .p0 a b c d e f g h i j k l m n o p q s t u v w y z w24 w25 w26 w27 w28 w29 w30 w31 w32 w33 w34 w35 w36 w37 w38 w39 w40 w41=>(cond (c<(a.length:Int)) (cond (c<(b.length:Int)) (m2 c (a.length:Int) (m2 c (b.length:Int) (call (Z116.R ((bf.at a (toNat c)).an,(bf.at b (toNat c)).an)) fun v1=>(cond v1 (J (.p0 a b (i64.wrap (c+1)) d e f g h i j k l m n o p q s t u v w y z w24 w25 w26 w27 w28 w29 w30 w31 w32 w33 w34 w35 w36 w37 w38 w39 w40 w41)) (m2 c (a.length:Int) (call (Z49.R (bf.at a (toNat c))) fun v2=>(m2 c (b.length:Int) (call (Z49.R (bf.at b (toNat c))) fun v3=>(cond (c>0) (bY ((0:Int)<=(i64.wrap (c - 1))) (bY ((i64.wrap (c - 1))<(a.length:Int)) (call (Z49.R (bf.at a (toNat (i64.wrap (c - 1))))) fun v4=>ret (((⟨v4,v2,v3⟩:bO),true):bO×Bool)))) (ret (((⟨(⟨(⟨0,0,0,0,0,0,0,0,(⟨[],0⟩:dz),(⟨[],0⟩:dz),0,(⟨[],0⟩:dz),false⟩:dI),[]⟩:bf),v2,v3⟩:bO),true):bO×Bool))))))))))) (m2 c (a.length:Int) (call (Z49.R (bf.at a (toNat c))) fun v5=>(m2 c (b.length:Int) (call (Z49.R (bf.at b (toNat c))) fun v6=>(cond (c>0) (bY ((0:Int)<=(i64.wrap (c - 1))) (bY ((i64.wrap (c - 1))<(a.length:Int)) (call (Z49.R (bf.at a (toNat (i64.wrap (c - 1))))) fun v7=>ret (((⟨v7,v5,v6⟩:bO),true):bO×Bool)))) (ret (((⟨(⟨(⟨0,0,0,0,0,0,0,0,(⟨[],0⟩:dz),(⟨[],0⟩:dz),0,(⟨[],0⟩:dz),false⟩:dI),[]⟩:bf),v5,v6⟩:bO),true):bO×Bool)))))))) (m2 c (a.length:Int) (call (Z49.R (bf.at a (toNat c))) fun v8=>(m2 c (b.length:Int) (call (Z49.R (bf.at b (toNat c))) fun v9=>(cond (c>0) (bY ((0:Int)<=(i64.wrap (c - 1))) (bY ((i64.wrap (c - 1))<(a.length:Int)) (call (Z49.R (bf.at a (toNat (i64.wrap (c - 1))))) fun v10=>ret (((⟨v10,v8,v9⟩:bO),true):bO×Bool)))) (ret (((⟨(⟨(⟨0,0,0,0,0,0,0,0,(⟨[],0⟩:dz),(⟨[],0⟩:dz),0,(⟨[],0⟩:dz),false⟩:dI),[]⟩:bf),v8,v9⟩:bO),true):bO×Bool))))))))
def start (J:Pt->aI)(x0 x1:aB):aI:=(call (Z88.R x0) fun v1=>(cond (!v1) (ret (((⟨(⟨(⟨0,0,0,0,0,0,0,0,(⟨[],0⟩),(⟨[],0⟩),0,(⟨[],0⟩),false⟩),[]⟩),(⟨(⟨0,0,0,0,0,0,0,0,(⟨[],0⟩),(⟨[],0⟩),0,(⟨[],0⟩),false⟩),[]⟩),(⟨(⟨0,0,0,0,0,0,0,0,(⟨[],0⟩),(⟨[],0⟩),0,(⟨[],0⟩),false⟩),[]⟩)⟩),false):bO×Bool)) (call (Z88.R x1) fun v2=>(cond (!v2) (ret (((⟨(⟨(⟨0,0,0,0,0,0,0,0,(⟨[],0⟩),(⟨[],0⟩),0,(⟨[],0⟩),false⟩),[]⟩),(⟨(⟨0,0,0,0,0,0,0,0,(⟨[],0⟩),(⟨[],0⟩),0,(⟨[],0⟩),false⟩),[]⟩),(⟨(⟨0,0,0,0,0,0,0,0,(⟨[],0⟩),(⟨[],0⟩),0,(⟨[],0⟩),false⟩),[]⟩)⟩),false):bO×Bool)) (bY ((0:Int)<x0.length) (bY ((0:Int)<x1.length) (cond ((bf.at x0 0).an.bz != (bf.at x1 0).an.bz) (ret (((⟨(⟨(⟨0,0,0,0,0,0,0,0,(⟨[],0⟩),(⟨[],0⟩),0,(⟨[],0⟩),false⟩),[]⟩),(⟨(⟨0,0,0,0,0,0,0,0,(⟨[],0⟩),(⟨[],0⟩),0,(⟨[],0⟩),false⟩),[]⟩),(⟨(⟨0,0,0,0,0,0,0,0,(⟨[],0⟩),(⟨[],0⟩),0,(⟨[],0⟩),false⟩),[]⟩)⟩),false):bO×Bool)) (call (Z117.R (x0,x1)) fun v3=>(cond v3 (ret (((⟨(⟨(⟨0,0,0,0,0,0,0,0,(⟨[],0⟩),(⟨[],0⟩),0,(⟨[],0⟩),false⟩),[]⟩),(⟨(⟨0,0,0,0,0,0,0,0,(⟨[],0⟩),(⟨[],0⟩),0,(⟨[],0⟩),false⟩),[]⟩),(⟨(⟨0,0,0,0,0,0,0,0,(⟨[],0⟩),(⟨[],0⟩),0,(⟨[],0⟩),false⟩),[]⟩)⟩),false):bO×Bool)) (call (Z117.R (x1,x0)) fun v4=>(cond v4 (ret (((⟨(⟨(⟨0,0,0,0,0,0,0,0,(⟨[],0⟩),(⟨[],0⟩),0,(⟨[],0⟩),false⟩),[]⟩),(⟨(⟨0,0,0,0,0,0,0,0,(⟨[],0⟩),(⟨[],0⟩),0,(⟨[],0⟩),false⟩),[]⟩),(⟨(⟨0,0,0,0,0,0,0,0,(⟨[],0⟩),(⟨[],0⟩),0,(⟨[],0⟩),false⟩),[]⟩)⟩),false):bO×Bool)) (J (.p0 x0 x1 0 0 0 0 0 0 0 0 0 0 0 0 0 false 0 0 0 0 0 0 0 0 0 0 0 0 false 0 0 0 0 0 0 0 0 0 0 0 0 false)))))))))))))
def live:Nat->Live:=fK [(4,gj [0,1,4,6])]
def pt (a b:aB)(c:Int):Pt:=Pt.p0 a b c 0 0 0 0 0 0 0 0 0 0 0 0 false 0 0 0 0 0 0 0 0 0 0 0 0 false 0 0 0 0 0 0 0 0 0 0 0 0 false
def fk:List aa->List aa->Nat
 | x::xs,y::ys=>bif Z116.md x.an y.an then fk xs ys+1 else 0
 | _,_=>0
def rF:∀a b:List aa,(∀i,i<fk a b->Z116.md (a.getD i aa.zero).an (b.getD i aa.zero).an=true)/\
    ((fk a b<a.length/\fk a b<b.length/\Z116.md (a.getD (fk a b) aa.zero).an (b.getD (fk a b) aa.zero).an=false)∨
     (a.length<=b.length/\∀i,i<a.length->Z116.md (a.getD i aa.zero).an (b.getD i aa.zero).an=true)∨
     (b.length<=a.length/\∀i,i<b.length->Z116.md (a.getD i aa.zero).an (b.getD i aa.zero).an=true))
  | [],b=>⟨fun i hi=>by simp [fk] at hi,.inr (.inl ⟨zero_le _,fun i hi=>by simp at hi⟩)⟩
  | x::xs,[]=>⟨fun i hi=>by simp [fk] at hi,.inr (.inr ⟨zero_le _,fun i hi=>by simp at hi⟩)⟩
  | x::xs,y::ys=>by
    obtain ⟨h1,h2⟩:=rF xs ys
    cases h:Z116.md x.an y.an
    · have e:fk (x::xs) (y::ys)=0:=by simp [fk,h]
      rw [e]
      exact ⟨fun i hi=>by omega,.inl ⟨by simp,by simp,h⟩⟩
    · have e:fk (x::xs) (y::ys)=fk xs ys+1:=by simp [fk,h]
      rw [e]
      have up:∀{m:Nat},(∀i,i<m->Z116.md (xs.getD i aa.zero).an (ys.getD i aa.zero).an=true)->∀i,i<m+1->Z116.md ((x::xs).getD i aa.zero).an ((y::ys).getD i aa.zero).an=true:=by
        intro m hm i hi
        cases i with
        | zero=>exact h
        | succ i=>exact hm i (by omega)
      refine ⟨up h1,?_⟩
      rcases h2 with ⟨a,b,c⟩ | ⟨a,b⟩ | ⟨a,b⟩
      · exact .inl ⟨by simpa using a,by simpa using b,c⟩
      · exact .inr (.inl ⟨by simpa using a,up b⟩)
      · exact .inr (.inr ⟨by simpa using a,up b⟩)
def zx {a b:List aa}(hl:a.length<=b.length)(h:∀i,i<a.length->Z116.md (a.getD i aa.zero).an (b.getD i aa.zero).an=true):Z117.md a b=true:=by
 unfold Z117.md
 rw [decide_eq_false (by omega),aX]
 refine (jT (fun i=>Z116.md (a.getD i aa.zero).an (b.getD i aa.zero).an=true) (fun i _ hi=>?_) (fun i _ hi=>?_)).2 ⟨h,rfl⟩
 ·simp only [hi,Bool.not_true,aX]
 ·rw [Bool.not_eq_true] at hi
  simp only [hi,Bool.not_false,aZ]
def eq_comm {a b:aF}(h:Z116.md a b=true):Z116.md b a=true:=by
 rw [Z116.md_eq,dm] at h ⊢
 exact h.symm
def mM {a b:List aa}(h1:Z117.md a b=false)(h2:Z117.md b a=false):fk a b<a.length/\fk a b<b.length/\Z116.md (a.getD (fk a b) aa.zero).an (b.getD (fk a b) aa.zero).an=false:=by
 rcases (rF a b).2 with h | ⟨h3,h4⟩ | ⟨h3,h4⟩
 ·exact h
 ·rw [zx h3 h4] at h1;cases h1
 ·rw [zx h3 fun i hi=>eq_comm (h4 i hi)] at h2;cases h2
def wv (a b:List aa):Nat->aG
 | 0=>⟨aa.zero,a.getD 0 aa.zero,b.getD 0 aa.zero⟩
 | k+1=>⟨a.getD k aa.zero,a.getD (k+1) aa.zero,b.getD (k+1) aa.zero⟩
def xY {a b:List aa}(h0:bN (2^21) (fun y:aa=>aa.Sm (2^21) y) a)(h1:bN (2^21) (fun y:aa=>aa.Sm (2^21) y) b){k:Nat}(hk:k<a.length)(hk2:k<b.length):aG.Sm (2^21) (wv a b k):=by
 cases k with
 | zero=>exact ⟨⟨⟨bN.nil,bN.nil,bN.nil⟩,bN.nil⟩,bN.getD h0 hk,bN.getD h1 hk2⟩
 | succ k=>exact ⟨bN.getD h0 (by omega),bN.getD h0 hk,bN.getD h1 hk2⟩
def Bz {a b:List aa}{k:Nat}(hk:k<a.length)(hk2:k<b.length):aG.size (wv a b k)<=2*eC (fun y:aa=>aa.size y) a+eC (fun y:aa=>aa.size y) b:=by
 have h1:=pZ (f:=fun y:aa=>aa.size y) (xs:=b) (i:=k) (z:=aa.zero) hk2
 have h2:=pZ (f:=fun y:aa=>aa.size y) (xs:=a) (i:=k) (z:=aa.zero) hk
 have h0:aa.size aa.zero=0:=rfl
 cases k with
 | zero=>simp only [wv,aG.size];omega
 | succ k=>
  have h3:=pZ (f:=fun y:aa=>aa.size y) (xs:=a) (i:=k) (z:=aa.zero) (by omega)
  simp only [wv,aG.size];omega
def md (a0 a1:List aa):aG×Bool:=(cond (!(Z88.md a0)) (aG.zero,false) (cond (!(Z88.md a1)) (aG.zero,false) (cond (((a0.getD 0 aa.zero).an).bz != ((a1.getD 0 aa.zero).an).bz) (aG.zero,false) (cond (Z117.md a0 a1) (aG.zero,false) (cond (Z117.md a1 a0) (aG.zero,false) (wv a0 a1 (fk a0 a1),true))))))
def gd (a0 a1:List aa):Prop:=bN (2^21) (fun y:aa=>aa.Sm (2^21) y) a0/\bN (2^21) (fun y:aa=>aa.Sm (2^21) y) a1
def R:=cm gd md
def ak {a0 a1}(h:gd a0 a1):R ((a0.map aa.row),(a1.map aa.row))=some ((aG.r (md a0 a1).1),(md a0 a1).2):=cq h
def aT:=CN [pL 178,pL 178] (.iS [(true,f180),(false,[fB])]) RT.dec R
def aY (a0)(a1)(hg:gd a0 a1):∃n,start (iter step n) (a0.map aa.row) (a1.map aa.row)=ret ((aG.r (md a0 a1).1),(md a0 a1).2):=by
 obtain ⟨H0,H1⟩:=hg
 have hl1:=H1.1
 have key:fk a0 a1<a0.length->fk a0 a1<a1.length->Z116.md (a0.getD (fk a0 a1) aa.zero).an (a1.getD (fk a0 a1) aa.zero).an=false->∀d k,k+d=fk a0 a1->∃n,iter step n (pt (a0.map aa.row) (a1.map aa.row) (k:Int))=ret ((aG.r (wv a0 a1 (fk a0 a1)),true):bO×Bool):=by
  intro hn0 hn1 hne d
  have hR:∀k,k<a0.length->k<a1.length->Z116.R (aF.r (a0.getD k aa.zero).an,aF.r (a1.getD k aa.zero).an)=some (Z116.md (a0.getD k aa.zero).an (a1.getD k aa.zero).an):=by
   intro k h0 h1
   rw [Z116.ak ⟨(bN.getD H0 h0).1,(bN.getD H1 h1).1⟩]
  induction d with
  | zero=>
   intro k hk
   obtain rfl:k=fk a0 a1:=by omega
   generalize hkk:fk a0 a1=k at hn0 hn1 hne ⊢
   refine ⟨1,?_⟩
   show step (iter step 0) _=_
   have q1:(0:Int)<=(k:Int):=by omega
   have q2:(k:Int)<(a0.length:Int):=by omega
   have q3:(k:Int)<(a1.length:Int):=by omega
   simp only [pt,step,MM,S0,aa.rs,aF.rs,q1,q2,q3,decide_true,aZ]
   rw [call_eq (hR k hn0 hn1),hne,aX,call_eq (Z49.ak (bN.getD H0 hn0)),call_eq (Z49.ak (bN.getD H1 hn1))]
   cases k with
   | zero=>rfl
   | succ k=>
    have q4:((k+1:Nat):Int)>0:=by omega
    have q5:i64.wrap (((k+1:Nat):Int) - 1)=(k:Int):=by rw [wi _ (by omega)];omega
    have q6:(0:Int)<=(k:Int):=by omega
    have q7:(k:Int)<(a0.length:Int):=by omega
    simp only [q4,q5,q6,q7,decide_true,aZ,S0,aa.rs]
    rw [call_eq (Z49.ak (bN.getD H0 (by omega)))]
    rfl
  | succ d ih=>
   intro k hk
   obtain ⟨n,hn⟩:=ih (k+1) (by omega)
   refine ⟨n+1,?_⟩
   show step (iter step n) _=_
   have q1:(0:Int)<=(k:Int):=by omega
   have q2:(k:Int)<(a0.length:Int):=by omega
   have q3:(k:Int)<(a1.length:Int):=by omega
   simp only [pt,step,MM,S0,aa.rs,aF.rs,q1,q2,q3,decide_true,aZ]
   rw [call_eq (hR k (by omega) (by omega)),(rF a0 a1).1 k (by omega),aZ,wi _ (by omega)]
   exact hn
 unfold start md
 simp only [S0,aa.rs,aF.rs]
 refine fP _ (Z88.ak H0) ?_
 cases hc0:Z88.md a0
 ·exact ⟨0,rfl⟩
 simp only [Bool.not_true,aX]
 refine fP _ (Z88.ak H1) ?_
 cases hc1:Z88.md a1
 ·exact ⟨0,rfl⟩
 have t0:=Z88.tr hc0
 have t1:=Z88.tr hc1
 simp only [Bool.not_true,aX]
 refine dW (decide_eq_true (by omega)) (dW (decide_eq_true (by omega)) ?_)
 cases ((a0.getD 0 aa.zero).an.bz != (a1.getD 0 aa.zero).an.bz)
 case true=>exact ⟨0,rfl⟩
 simp only [aX]
 refine fP _ (Z117.ak ⟨H0,H1⟩) ?_
 cases hp0:Z117.md a0 a1
 case true=>exact ⟨0,rfl⟩
 simp only [aX]
 refine fP _ (Z117.ak ⟨H1,H0⟩) ?_
 cases hp1:Z117.md a1 a0
 case true=>exact ⟨0,rfl⟩
 simp only [aX]
 obtain ⟨h1,h2,h3⟩:=mM hp0 hp1
 exact key h1 h2 h3 (fk a0 a1) 0 (by omega)
def af:cz 182 aT:=L2 86 (fun _=>4) cu cR live step start mix aC aY (kE Z88.af Z117.af Z116.af Z49.af) Tryz.func182
def iR {a0 a1:List aa}(hg:gd a0 a1):aG.Sm (2^21) ((md a0 a1).1):=by
 unfold gd at hg;unfold md
 have z:aG.Sm (2^21) aG.zero:=⟨⟨⟨bN.nil,bN.nil,bN.nil⟩,bN.nil⟩,⟨⟨bN.nil,bN.nil,bN.nil⟩,bN.nil⟩,⟨⟨bN.nil,bN.nil,bN.nil⟩,bN.nil⟩⟩
 cases Z88.md a0
 ·exact z
 cases Z88.md a1
 ·exact z
 cases ((a0.getD 0 aa.zero).an.bz != (a1.getD 0 aa.zero).an.bz)
 case true=>exact z
 cases h1:Z117.md a0 a1
 case true=>exact z
 cases h2:Z117.md a1 a0
 case true=>exact z
 obtain ⟨h3,h4,_⟩:=Z119.mM h1 h2
 exact Z119.xY hg.1 hg.2 h3 h4
end Z119
end Go.DM
end
