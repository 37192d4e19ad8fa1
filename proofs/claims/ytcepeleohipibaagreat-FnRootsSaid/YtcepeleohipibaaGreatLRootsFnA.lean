/- What the functions compute that the law reaches, and that the law returns true. Conditions: none. -/
import Derived.Test.YtcepeleohipibaaGreatLRootsTy
import Derived.Test.YtcepeleohipibaaGreatProg
import Derived.Lib.AppendZerosOnto
import Derived.Lib.Bytealg
import Derived.Laws.Externs
import Derived.Lib.Walk
import Derived.Lib.Hide
import Derived.Lib.Strings
import Derived.WalkKit
import Derived.Maps.Own
import Derived.Maps.OwnOps
import Derived.Maps.OwnSet
import Derived.Maps.Views
set_option linter.all false
set_option maxRecDepth 100000
noncomputable section
namespace Go.DM
open Go.Proofs
open Go.IntKind (i64)
open Int (toNat)
open Nat (le_trans zero_le)
abbrev aE:=K.int .i64
abbrev mG:=ret ((-1):Int)
abbrev cL {A B A' B' Z Z':Type}[Im A A'][Im B B'][Im Z Z'](g:A->B->Prop)(m:A->B->Z):=RR (p2 g) (u2 m)
abbrev lY {A B C A' B' C' Z Z':Type}[Im A A'][Im B B'][Im C C'][Im Z Z'](g:A->B->C->Prop)(m:A->B->C->Z):=RR (p3 g) (u3 m)
abbrev tI {A B C D A' B' C' D' Z Z':Type}[Im A A'][Im B B'][Im C C'][Im D D'][Im Z Z'](g:A->B->C->D->Prop)(m:A->B->C->D->Z):=RR (p4 g) (u4 m)
abbrev qL {A B C D E A' B' C' D' E' Z Z':Type}[Im A A'][Im B B'][Im C C'][Im D D'][Im E E'][Im Z Z'](g:A->B->C->D->E->Prop)(m:A->B->C->D->E->Z):=RR (p5 g) (u5 m)
abbrev fq:=ret (false:Bool)
abbrev nN:=ret (true:Bool)
abbrev FF (b:Int):Bool:=Nat.beq (toNat b) (toNat b)&&true
def iR (l:List Nat):Live:=l.map fun i=>(i,none)
def gx:List (Nat×Live)->Nat->Live
 | [],_=>[]
 | (k,v)::r,i=>cond (Nat.beq k i) v (gx r i)
section
variable {P:Program} {E:Env} {f1:Nat} {c1:gu} {f2:Nat} {c2:gu} {f3:Nat} {c3:gu} {f4:Nat} {c4:gu} {f5:Nat} {c5:gu} {f6:Nat} {c6:gu} {f7:Nat} {c7:gu}
theorem cM (h1:Valid P E f1 c1):fW P E [(f1,c1)]:=.cons h1 .nil
theorem eS (h1:Valid P E f1 c1)(h2:Valid P E f2 c2):fW P E [(f1,c1),(f2,c2)]:=.cons h1 (cM h2)
theorem jw (h1:Valid P E f1 c1)(h2:Valid P E f2 c2)(h3:Valid P E f3 c3):fW P E [(f1,c1),(f2,c2),(f3,c3)]:=.cons h1 (eS h2 h3)
theorem nQ (h1:Valid P E f1 c1)(h2:Valid P E f2 c2)(h3:Valid P E f3 c3)(h4:Valid P E f4 c4):fW P E [(f1,c1),(f2,c2),(f3,c3),(f4,c4)]:=.cons h1 (jw h2 h3 h4)
theorem wP (h1:Valid P E f1 c1)(h2:Valid P E f2 c2)(h3:Valid P E f3 c3)(h4:Valid P E f4 c4)(h5:Valid P E f5 c5):fW P E [(f1,c1),(f2,c2),(f3,c3),(f4,c4),(f5,c5)]:=.cons h1 (nQ h2 h3 h4 h5)
theorem vp (h1:Valid P E f1 c1)(h2:Valid P E f2 c2)(h3:Valid P E f3 c3)(h4:Valid P E f4 c4)(h5:Valid P E f5 c5)(h6:Valid P E f6 c6):fW P E [(f1,c1),(f2,c2),(f3,c3),(f4,c4),(f5,c5),(f6,c6)]:=.cons h1 (wP h2 h3 h4 h5 h6)
theorem Ad (h1:Valid P E f1 c1)(h2:Valid P E f2 c2)(h3:Valid P E f3 c3)(h4:Valid P E f4 c4)(h5:Valid P E f5 c5)(h6:Valid P E f6 c6)(h7:Valid P E f7 c7):fW P E [(f1,c1),(f2,c2),(f3,c3),(f4,c4),(f5,c5),(f6,c6),(f7,c7)]:=.cons h1 (vp h2 h3 h4 h5 h6 h7)
end
def cO {A A' Z Z':Type}[Im A A'][Im Z Z']{g:A->Prop}{m:A->Z}{a:A}(h:g a):RR (g) (m) (Im.im a)=some (Im.im (m a):Z'):=wo (a:=(a)) h
def cK {A B A' B' Z Z':Type}[Im A A'][Im B B'][Im Z Z']{g:A->B->Prop}{m:A->B->Z}{a:A}{b:B}(h:g a b):RR (p2 g) (u2 m) ((Im.im a:A'),(Im.im b:B'))=some (Im.im (m a b):Z'):=wo (a:=(a,b)) h
def lV {A B C A' B' C' Z Z':Type}[Im A A'][Im B B'][Im C C'][Im Z Z']{g:A->B->C->Prop}{m:A->B->C->Z}{a:A}{b:B}{c:C}(h:g a b c):RR (p3 g) (u3 m) ((Im.im a:A'),(Im.im b:B'),(Im.im c:C'))=some (Im.im (m a b c):Z'):=wo (a:=(a,b,c)) h
def sH {A B C D A' B' C' D' Z Z':Type}[Im A A'][Im B B'][Im C C'][Im D D'][Im Z Z']{g:A->B->C->D->Prop}{m:A->B->C->D->Z}{a:A}{b:B}{c:C}{d:D}(h:g a b c d):RR (p4 g) (u4 m) ((Im.im a:A'),(Im.im b:B'),(Im.im c:C'),(Im.im d:D'))=some (Im.im (m a b c d):Z'):=wo (a:=(a,b,c,d)) h
def qA {A B C D E A' B' C' D' E' Z Z':Type}[Im A A'][Im B B'][Im C C'][Im D D'][Im E E'][Im Z Z']{g:A->B->C->D->E->Prop}{m:A->B->C->D->E->Z}{a:A}{b:B}{c:C}{d:D}{e:E}(h:g a b c d e):RR (p5 g) (u5 m) ((Im.im a:A'),(Im.im b:B'),(Im.im c:C'),(Im.im d:D'),(Im.im e:E'))=some (Im.im (m a b c d e):Z'):=wo (a:=(a,b,c,d,e)) h
abbrev k7:List K:=[aE,aE,.bool,.int .u8]
abbrev f7:List Lf:=[fI,fI,fB,.rd (.int .u8)]
abbrev k8:List K:=[aE,aE,.bool,.int .u8]
abbrev f8:List Lf:=[fI,fI,fB,.rd (.int .u8)]
abbrev tR:List K:=[.str,.int .u64]
abbrev f13:List Lf:=[fS,.rd (.int .u64)]
abbrev tV:List K:=[.str,.int .u64]
abbrev f14:List Lf:=[fS,.rd (.int .u64)]
abbrev FC:List K:=[.sl 37,.sl 170]
abbrev f35:List Lf:=[.fr 37,.fr 170]
abbrev vF:List K:=[.sl 37,.sl 170]
abbrev f36:List Lf:=[.fr 37,.fr 170]
abbrev FD:List K:=[.sl 3,aE]
abbrev f47:List Lf:=[.fr 3,fI]
abbrev qR:List K:=[.sl 3,aE]
abbrev f48:List Lf:=[.fr 3,fI]
abbrev FE:List K:=[aE,aE,aE,aE,aE,aE,aE,aE,.sl 3,aE,.sl 3,aE,aE,.sl 3,aE,.bool]
abbrev f49:List Lf:=[fI,fI,fI,fI,fI,fI,fI,fI,.fr 3,fI,.fr 3,fI,fI,.fr 3,fI,fB]
abbrev lC:List K:=[aE,aE,aE,aE,aE,aE,aE,aE,.sl 3,aE,.sl 3,aE,aE,.sl 3,aE,.bool]
abbrev f50:List Lf:=[fI,fI,fI,fI,fI,fI,fI,fI,.fr 3,fI,.fr 3,fI,fI,.fr 3,fI,fB]
abbrev FN:List K:=[aE,aE,aE,aE,aE,aE,aE,aE,.sl 3,aE,.sl 3,aE,aE,.sl 3,aE,.bool,.sl 315]
abbrev f52:List Lf:=[fI,fI,fI,fI,fI,fI,fI,fI,.fr 3,fI,.fr 3,fI,fI,.fr 3,fI,fB,.fr 315]
abbrev we:List K:=[aE,aE,aE,aE,aE,aE,aE,aE,.sl 3,aE,.sl 3,aE,aE,.sl 3,aE,.bool,.sl 315]
abbrev f53:List Lf:=[fI,fI,fI,fI,fI,fI,fI,fI,.fr 3,fI,.fr 3,fI,fI,.fr 3,fI,fB,.fr 315]
abbrev FK:List K:=[.sl 84]
abbrev f58:List Lf:=[.fr 84]
abbrev FA:List K:=[.sl 84]
abbrev f59:List Lf:=[.fr 84]
abbrev Fx:List K:=[.str,aE,aE,.sl 9]
abbrev f61:List Lf:=[fS,fI,fI,.fr 9]
abbrev vY:List K:=[.str,aE,aE,.sl 9]
abbrev f62:List Lf:=[fS,fI,fI,.fr 9]
abbrev FB:List K:=[aE,.sl 3]
abbrev f63:List Lf:=[fI,.fr 3]
abbrev BS:List K:=[aE,.sl 3]
abbrev f64:List Lf:=[fI,.fr 3]
abbrev Fu:List K:=[aE,.str,aE,aE,.sl 9,.str,aE,aE,.sl 9,aE,.sl 3,aE,.sl 3]
abbrev f65:List Lf:=[fI,fS,fI,fI,.fr 9,fS,fI,fI,.fr 9,fI,.fr 3,fI,.fr 3]
abbrev Dp:List K:=[aE,.str,aE,aE,.sl 9,.str,aE,aE,.sl 9,aE,.sl 3,aE,.sl 3]
abbrev f66:List Lf:=[fI,fS,fI,fI,.fr 9,fS,fI,fI,.fr 9,fI,.fr 3,fI,.fr 3]
abbrev Fz:List K:=[.sl 53,.bool,.str,aE,aE,.sl 9,aE,.sl 3,aE,.str,aE,aE,.sl 9,.str,aE,aE,.sl 9,aE,.sl 3,aE,.sl 3]
abbrev f67:List Lf:=[.fr 53,fB,fS,fI,fI,.fr 9,fI,.fr 3,fI,fS,fI,fI,.fr 9,fS,fI,fI,.fr 9,fI,.fr 3,fI,.fr 3]
abbrev Ec:List K:=[.sl 53,.bool,.str,aE,aE,.sl 9,aE,.sl 3,aE,.str,aE,aE,.sl 9,.str,aE,aE,.sl 9,aE,.sl 3,aE,.sl 3]
abbrev f68:List Lf:=[.fr 53,fB,fS,fI,fI,.fr 9,fI,.fr 3,fI,fS,fI,fI,.fr 9,fS,fI,fI,.fr 9,fI,.fr 3,fI,.fr 3]
abbrev FL:List K:=[aE,.str,.sl 53,.bool,.str,aE,aE,.sl 9,aE,.sl 3,aE,.str,aE,aE,.sl 9,.str,aE,aE,.sl 9,aE,.sl 3,aE,.sl 3]
abbrev f83:List Lf:=[fI,fS,.fr 53,fB,fS,fI,fI,.fr 9,fI,.fr 3,fI,fS,fI,fI,.fr 9,fS,fI,fI,.fr 9,fI,.fr 3,fI,.fr 3]
abbrev Fw:List K:=[aE,.str,.sl 53,.bool,.str,aE,aE,.sl 9,aE,.sl 3,aE,.str,aE,aE,.sl 9,.str,aE,aE,.sl 9,aE,.sl 3,aE,.sl 3]
abbrev f84:List Lf:=[fI,fS,.fr 53,fB,fS,fI,fI,.fr 9,fI,.fr 3,fI,fS,fI,fI,.fr 9,fS,fI,fI,.fr 9,fI,.fr 3,fI,.fr 3]
abbrev FG:List K:=[.sl 37,.sl 170,.bool,.str,aE,aE,.sl 9,.bool,.sl 3]
abbrev f88:List Lf:=[.fr 37,.fr 170,fB,fS,fI,fI,.fr 9,fB,.fr 3]
abbrev E9:List K:=[.sl 37,.sl 170,.bool,.str,aE,aE,.sl 9,.bool,.sl 3]
abbrev f89:List Lf:=[.fr 37,.fr 170,fB,fS,fI,fI,.fr 9,fB,.fr 3]
abbrev FH:List K:=[.sl 295]
abbrev f98:List Lf:=[.fr 295]
abbrev Fy:List K:=[.sl 295]
abbrev f99:List Lf:=[.fr 295]
abbrev EY:List K:=[.sl 37,.sl 170,aE,.str,aE,aE,.sl 9,.sl 3,aE]
abbrev f107:List Lf:=[.fr 37,.fr 170,fI,fS,fI,fI,.fr 9,.fr 3,fI]
abbrev zZ:List K:=[.sl 37,.sl 170,aE,.str,aE,aE,.sl 9,.sl 3,aE]
abbrev f108:List Lf:=[.fr 37,.fr 170,fI,fS,fI,fI,.fr 9,.fr 3,fI]
abbrev Ez:List K:=[.sl 37,.sl 170,aE,.str,aE,aE,.sl 9,.sl 3,aE,.sl 84]
abbrev f132:List Lf:=[.fr 37,.fr 170,fI,fS,fI,fI,.fr 9,.fr 3,fI,.fr 84]
abbrev E7:List K:=[.sl 37,.sl 170,aE,.str,aE,aE,.sl 9,.sl 3,aE,.sl 84]
abbrev f133:List Lf:=[.fr 37,.fr 170,fI,fS,fI,fI,.fr 9,.fr 3,fI,.fr 84]
abbrev E1:List K:=[.str,aE]
abbrev f150:List Lf:=[fS,fI]
abbrev EB:List K:=[.str,aE]
abbrev f151:List Lf:=[fS,fI]
abbrev EE:List K:=[.str,aE]
abbrev f156:List Lf:=[fS,fI]
abbrev EK:List K:=[aE,aE,aE,aE,aE,aE,aE,aE,.sl 3,aE,.sl 3,aE,aE,.sl 3,aE,.bool,.sl 315,aE,aE,aE,aE,aE,aE,aE,aE,.sl 3,aE,.sl 3,aE,aE,.sl 3,aE,.bool,.sl 315,aE,aE,aE,aE,aE,aE,aE,aE,.sl 3,aE,.sl 3,aE,aE,.sl 3,aE,.bool,.sl 315]
abbrev f169:List Lf:=[fI,fI,fI,fI,fI,fI,fI,fI,.fr 3,fI,.fr 3,fI,fI,.fr 3,fI,fB,.fr 315,fI,fI,fI,fI,fI,fI,fI,fI,.fr 3,fI,.fr 3,fI,fI,.fr 3,fI,fB,.fr 315,fI,fI,fI,fI,fI,fI,fI,fI,.fr 3,fI,.fr 3,fI,fI,.fr 3,fI,fB,.fr 315]
abbrev vO:List K:=[aE,aE,aE,aE,aE,aE,aE,aE,.sl 3,aE,.sl 3,aE,aE,.sl 3,aE,.bool,.sl 315,aE,aE,aE,aE,aE,aE,aE,aE,.sl 3,aE,.sl 3,aE,aE,.sl 3,aE,.bool,.sl 315,aE,aE,aE,aE,aE,aE,aE,aE,.sl 3,aE,.sl 3,aE,aE,.sl 3,aE,.bool,.sl 315]
abbrev f170:List Lf:=[fI,fI,fI,fI,fI,fI,fI,fI,.fr 3,fI,.fr 3,fI,fI,.fr 3,fI,fB,.fr 315,fI,fI,fI,fI,fI,fI,fI,fI,.fr 3,fI,.fr 3,fI,fI,.fr 3,fI,fB,.fr 315,fI,fI,fI,fI,fI,fI,fI,fI,.fr 3,fI,.fr 3,fI,fI,.fr 3,fI,fB,.fr 315]
abbrev E5:List K:=[.sl 53,.sl 62]
abbrev f187:List Lf:=[.fr 53,.fr 62]
abbrev sj:List K:=[.sl 53,.sl 62]
abbrev f188:List Lf:=[.fr 53,.fr 62]
abbrev EF:List K:=[.str,aE]
abbrev f232:List Lf:=[fS,fI]
abbrev EI:List K:=[.sl 5,aE,aE]
abbrev f255:List Lf:=[.fr 5,fI,fI]
abbrev E8:List K:=[.sl 5,aE,aE]
abbrev f256:List Lf:=[.fr 5,fI,fI]
abbrev ED:List K:=[.sl 188,aE]
abbrev f279:List Lf:=[.fr 188,fI]
abbrev Af:List K:=[.sl 188,aE]
abbrev f280:List Lf:=[.fr 188,fI]
abbrev EX:List K:=[.str,aE,aE,.sl 9]
abbrev f288:List Lf:=[fS,fI,fI,.fr 9]
abbrev Fk:List K:=[aE,.sl 3]
abbrev f289:List Lf:=[fI,.fr 3]
abbrev EN:List K:=[aE,.str,aE,aE,.sl 9,.str,aE,aE,.sl 9,aE,.sl 3,aE,.sl 3]
abbrev f290:List Lf:=[fI,fS,fI,fI,.fr 9,fS,fI,fI,.fr 9,fI,.fr 3,fI,.fr 3]
abbrev E2:List K:=[aE,.str,aE,aE,.sl 9,.str,aE,aE,.sl 9,aE,.sl 3,aE,.sl 3]
abbrev f291:List Lf:=[fI,fS,fI,fI,.fr 9,fS,fI,fI,.fr 9,fI,.fr 3,fI,.fr 3]
abbrev Fb:List K:=[.sl 413,.bool,.str,aE,aE,.sl 9,aE,.sl 3,aE,.str,aE,aE,.sl 9,.str,aE,aE,.sl 9,aE,.sl 3,aE,.sl 3]
abbrev f292:List Lf:=[.fr 413,fB,fS,fI,fI,.fr 9,fI,.fr 3,fI,fS,fI,fI,.fr 9,fS,fI,fI,.fr 9,fI,.fr 3,fI,.fr 3]
abbrev E6:List K:=[.sl 413,.bool,.str,aE,aE,.sl 9,aE,.sl 3,aE,.str,aE,aE,.sl 9,.str,aE,aE,.sl 9,aE,.sl 3,aE,.sl 3]
abbrev f293:List Lf:=[.fr 413,fB,fS,fI,fI,.fr 9,fI,.fr 3,fI,fS,fI,fI,.fr 9,fS,fI,fI,.fr 9,fI,.fr 3,fI,.fr 3]
abbrev Fj:List K:=[aE,.str,.sl 413,.bool,.str,aE,aE,.sl 9,aE,.sl 3,aE,.str,aE,aE,.sl 9,.str,aE,aE,.sl 9,aE,.sl 3,aE,.sl 3]
abbrev f294:List Lf:=[fI,fS,.fr 413,fB,fS,fI,fI,.fr 9,fI,.fr 3,fI,fS,fI,fI,.fr 9,fS,fI,fI,.fr 9,fI,.fr 3,fI,.fr 3]
abbrev Fc:List K:=[aE,.str,.sl 413,.bool,.str,aE,aE,.sl 9,aE,.sl 3,aE,.str,aE,aE,.sl 9,.str,aE,aE,.sl 9,aE,.sl 3,aE,.sl 3]
abbrev f295:List Lf:=[fI,fS,.fr 413,fB,fS,fI,fI,.fr 9,fI,.fr 3,fI,fS,fI,fI,.fr 9,fS,fI,fI,.fr 9,fI,.fr 3,fI,.fr 3]
abbrev ES:List K:=[aE,aE]
abbrev f314:List Lf:=[fI,fI]
abbrev Dk:List K:=[aE,aE]
abbrev f315:List Lf:=[fI,fI]
abbrev ER:List K:=[.int .i32,.int .u32]
abbrev f360:List Lf:=[.rd (.int .i32),.rd (.int .u32)]
abbrev EW:List K:=[.int .i32,.int .u32]
abbrev f361:List Lf:=[.rd (.int .i32),.rd (.int .u32)]
abbrev EC:List K:=[.sl 3,aE]
abbrev f408:List Lf:=[.fr 3,fI]
abbrev Fe:List K:=[aE,aE,aE,aE,aE,aE,aE,aE,.sl 3,aE,.sl 3,aE,aE,.sl 3,aE,.bool]
abbrev f409:List Lf:=[fI,fI,fI,fI,fI,fI,fI,fI,.fr 3,fI,.fr 3,fI,fI,.fr 3,fI,fB]
abbrev ET:List K:=[aE,aE,aE,aE,aE,aE,aE,aE,.sl 3,aE,.sl 3,aE,aE,.sl 3,aE,.bool]
abbrev f410:List Lf:=[fI,fI,fI,fI,fI,fI,fI,fI,.fr 3,fI,.fr 3,fI,fI,.fr 3,fI,fB]
abbrev Fi:List K:=[aE,aE,aE,aE,aE,aE,aE,aE,.sl 3,aE,.sl 3,aE,aE,.sl 3,aE,.bool,.sl 457]
abbrev f412:List Lf:=[fI,fI,fI,fI,fI,fI,fI,fI,.fr 3,fI,.fr 3,fI,fI,.fr 3,fI,fB,.fr 457]
abbrev EZ:List K:=[aE,aE,aE,aE,aE,aE,aE,aE,.sl 3,aE,.sl 3,aE,aE,.sl 3,aE,.bool,.sl 457]
abbrev f413:List Lf:=[fI,fI,fI,fI,fI,fI,fI,fI,.fr 3,fI,.fr 3,fI,fI,.fr 3,fI,fB,.fr 457]
abbrev E3:List K:=[aE,aE]
abbrev f457:List Lf:=[fI,fI]
def mq:List (Nat×TI):=[
 (2,⟨[aE],false,[],8,false⟩),
 (3,⟨[aE],false,[],8,false⟩),
 (4,⟨[.bool],false,[],1,false⟩),
 (5,⟨[.int .u8],false,[],1,false⟩),
 (6,⟨[.int .u8],false,[],1,false⟩),
 (7,⟨k7,true,[(0,2),(1,3),(2,4),(3,6)],24,false⟩),
 (8,⟨k8,true,[(0,2),(1,3),(2,4),(3,6)],24,false⟩),
 (9,⟨[.str],false,[],16,false⟩),
 (10,⟨[.str],false,[],16,false⟩),
 (11,⟨[.str],false,[],16,false⟩),
 (12,⟨[.int .u64],false,[],8,false⟩),
 (13,⟨tR,true,[(0,9),(1,12)],24,false⟩),
 (14,⟨tV,true,[(0,9),(1,12)],24,false⟩),
 (21,⟨[.int .i32],false,[],4,false⟩),
 (22,⟨[.sl 156],false,[],24,false⟩),
 (24,⟨[.sl 151],false,[],24,false⟩),
 (31,⟨[.sl 5],false,[],24,false⟩),
 (33,⟨[.sl 37],false,[],24,false⟩),
 (34,⟨[.sl 170],false,[],24,false⟩),
 (35,⟨FC,true,[(0,33),(1,34)],48,false⟩),
 (36,⟨vF,true,[(0,33),(1,34)],48,false⟩),
 (37,⟨[.sl 53],false,[],24,false⟩),
 (46,⟨[.sl 3],false,[],24,false⟩),
 (47,⟨FD,true,[(0,46),(1,3)],32,false⟩),
 (48,⟨qR,true,[(0,46),(1,3)],32,false⟩),
 (49,⟨FE,true,[(0,3),(1,3),(2,3),(3,3),(4,3),(5,3),(6,3),(7,3),(8,48),(10,48),(12,3),(13,48),(15,4)],176,false⟩),
 (50,⟨lC,true,[(0,3),(1,3),(2,3),(3,3),(4,3),(5,3),(6,3),(7,3),(8,48),(10,48),(12,3),(13,48),(15,4)],176,false⟩),
 (51,⟨[.sl 315],false,[],24,false⟩),
 (52,⟨FN,true,[(0,50),(16,51)],200,false⟩),
 (53,⟨we,true,[(0,50),(16,51)],200,false⟩),
 (57,⟨[.sl 84],false,[],24,false⟩),
 (58,⟨FK,true,[(0,57)],24,false⟩),
 (59,⟨FA,true,[(0,57)],24,false⟩),
 (60,⟨[.sl 9],false,[],24,false⟩),
 (61,⟨Fx,true,[(0,9),(1,3),(2,3),(3,60)],56,false⟩),
 (62,⟨vY,true,[(0,9),(1,3),(2,3),(3,60)],56,false⟩),
 (63,⟨FB,true,[(0,3),(1,46)],32,false⟩),
 (64,⟨BS,true,[(0,3),(1,46)],32,false⟩),
 (65,⟨Fu,true,[(0,3),(1,62),(5,62),(9,64),(11,64)],184,false⟩),
 (66,⟨Dp,true,[(0,3),(1,62),(5,62),(9,64),(11,64)],184,false⟩),
 (67,⟨Fz,true,[(0,37),(1,4),(2,62),(6,64),(8,66)],304,false⟩),
 (68,⟨Ec,true,[(0,37),(1,4),(2,62),(6,64),(8,66)],304,false⟩),
 (83,⟨FL,true,[(0,3),(1,9),(2,68)],328,false⟩),
 (84,⟨Fw,true,[(0,3),(1,9),(2,68)],328,false⟩),
 (85,⟨[.sl 68],false,[],24,false⟩),
 (88,⟨FG,true,[(0,36),(2,4),(3,62),(7,4),(8,46)],144,false⟩),
 (89,⟨E9,true,[(0,36),(2,4),(3,62),(7,4),(8,46)],144,false⟩),
 (97,⟨[.sl 295],false,[],24,false⟩),
 (98,⟨FH,true,[(0,97)],24,false⟩),
 (99,⟨Fy,true,[(0,97)],24,false⟩),
 (104,⟨[.sl 280],false,[],24,false⟩),
 (107,⟨EY,true,[(0,36),(2,3),(3,62),(7,46),(8,3)],144,false⟩),
 (108,⟨zZ,true,[(0,36),(2,3),(3,62),(7,46),(8,3)],144,false⟩),
 (117,⟨[.sl 232],false,[],24,false⟩),
 (120,⟨[.sl 108],false,[],24,false⟩),
 (123,⟨[.sl 46],false,[],24,false⟩),
 (126,⟨[.sl 62],false,[],24,false⟩),
 (132,⟨Ez,true,[(0,108),(9,59)],168,false⟩),
 (133,⟨E7,true,[(0,108),(9,59)],168,false⟩),
 (150,⟨E1,true,[(0,9),(1,3)],24,false⟩),
 (151,⟨EB,true,[(0,9),(1,3)],24,true⟩),
 (156,⟨EE,true,[(0,9),(1,3)],24,true⟩),
 (169,⟨EK,true,[(0,53),(17,53),(34,53)],600,false⟩),
 (170,⟨vO,true,[(0,53),(17,53),(34,53)],600,false⟩),
 (184,⟨[.sl 188],false,[],24,false⟩),
 (187,⟨E5,true,[(0,37),(1,126)],48,false⟩),
 (188,⟨sj,true,[(0,37),(1,126)],48,false⟩),
 (232,⟨EF,true,[(0,9),(1,3)],24,true⟩),
 (255,⟨EI,true,[(0,31),(1,3),(2,3)],40,false⟩),
 (256,⟨E8,true,[(0,31),(1,3),(2,3)],40,false⟩),
 (279,⟨ED,true,[(0,184),(1,3)],32,false⟩),
 (280,⟨Af,true,[(0,184),(1,3)],32,false⟩),
 (287,⟨[.sl 413],false,[],24,false⟩),
 (288,⟨EX,true,[(0,9),(1,3),(2,3),(3,60)],56,false⟩),
 (289,⟨Fk,true,[(0,3),(1,46)],32,false⟩),
 (290,⟨EN,true,[(0,3),(1,288),(5,288),(9,289),(11,289)],184,false⟩),
 (291,⟨E2,true,[(0,3),(1,288),(5,288),(9,289),(11,289)],184,false⟩),
 (292,⟨Fb,true,[(0,287),(1,4),(2,288),(6,289),(8,291)],304,false⟩),
 (293,⟨E6,true,[(0,287),(1,4),(2,288),(6,289),(8,291)],304,false⟩),
 (294,⟨Fj,true,[(0,3),(1,9),(2,293)],328,false⟩),
 (295,⟨Fc,true,[(0,3),(1,9),(2,293)],328,false⟩),
 (314,⟨ES,true,[(0,3),(1,3)],16,false⟩),
 (315,⟨Dk,true,[(0,3),(1,3)],16,true⟩),
 (324,⟨[.int .u64],false,[],8,false⟩),
 (357,⟨[.int .u32],false,[],4,false⟩),
 (360,⟨ER,true,[(0,21),(1,357)],8,false⟩),
 (361,⟨EW,true,[(0,21),(1,357)],8,false⟩),
 (408,⟨EC,true,[(0,46),(1,3)],32,false⟩),
 (409,⟨Fe,true,[(0,3),(1,3),(2,3),(3,3),(4,3),(5,3),(6,3),(7,3),(8,408),(10,408),(12,3),(13,408),(15,4)],176,false⟩),
 (410,⟨ET,true,[(0,3),(1,3),(2,3),(3,3),(4,3),(5,3),(6,3),(7,3),(8,408),(10,408),(12,3),(13,408),(15,4)],176,false⟩),
 (411,⟨[.sl 457],false,[],24,false⟩),
 (412,⟨Fi,true,[(0,410),(16,411)],200,false⟩),
 (413,⟨EZ,true,[(0,410),(16,411)],200,false⟩),
 (457,⟨E3,true,[(0,3),(1,3)],16,true⟩),
 (479,⟨[.int .u8],false,[],1,false⟩),
 (480,⟨[.int .u8],false,[],1,false⟩),
 (483,⟨[.int .i32],false,[],4,false⟩),
 (484,⟨[.int .i32],false,[],4,false⟩),
 (500,⟨[.sl 5],false,[],24,false⟩)]
abbrev Ev:Env:=cR mq
def aA:eP Tryz.prog mq=true:=by kernel_rfl
def mix:Tryz.prog.follows .mixedOrders=true:=by kernel_rfl
abbrev bZ:=Valid Tryz.prog Ev
namespace Z0
def F (x0:an):aC:=ret ((decide ((x0.length:Int)>1048576)):Bool)
def md (a0:List Int):Bool:=(decide ((a0.length:Int)>1048576))
def gd (a0:List Int):Prop:=True
def R:=RR gd md
def aj {a0}(h:gd a0):R (a0.map aQ)=some (md a0):=cO h
def aK:=CN [pL 5] oB RT.dec R
def bn (a0)(hg:gd a0):F (a0.map aQ)=ret (md a0):=by
 unfold F md
 rw [List.length_map]
def af:bZ 20 aK:=W1 6 F mix aA bn .nil Tryz.func20
end Z0
namespace Z1
inductive Pt where
 | p0 (a:an) (b c:Int)
def pid:Pt->Nat
 | .p0 ..=>3
def cF:Pt->List V
 | .p0 a b c=>[.sl none 5 a,.int .i64 b,.int .i64 c]
def dN:Pt->List aL
 | .p0 a b c=>[]
def step (J:Pt->aC):Pt->aC
 | .p0 a b c=>(cond (c<(a.length:Int)) (cond (c<4000) (m2 c (a.length:Int) (J (.p0 a (vr .i64 (i64.wrap ((i64.wrap ((i64.wrap (b*137))+(i64.wrap (gR a (toNat c)))))+11)) 1073741823) (i64.wrap (c+1))))) (ret ((a,0,b):an×Int×Int))) (ret ((a,0,b):an×Int×Int)))
def start (J:Pt->aC)(x0:an):aC:=J (.p0 x0 (i64.wrap (193017+(x0.length:Int))) 0)
def live:Nat->Live:=gx [(3,iR [0,3,4])]
abbrev eI:List K:=[.sl 5,aE,aE]
def pats:List fE:=[.rd (.sl 5)]
abbrev E:Env:={ T:=assoc mq,G:=cW [],nt:=32,M:=eW [],np:=0,mt:=false,I:=gp [] }
def step_eq (I:dB)(p:Pt):dU E live I (pid p) (bJ Tryz.f137) (iN (live (pid p)) (cF p) (dN p)) (dz E Tryz.f137 (.uh eI))=step (fun q=>I (pid q) (cF q) (dN q)) p:=by
 cases p<;>kernel_rfl
def start_eq (I:dB)(ls:List L):gJ E live I (bJ Tryz.f137) (dy pats ls) (dz E Tryz.f137 (.uh eI))=start (fun q=>I (pid q) (cF q) (dN q)) (eM ls):=by kernel_rfl
def run_eq (n:Nat)(ls:List L):eV E live Tryz.f137 (.uh eI) n (dy pats ls)=start (iter step n) (eM ls):=dK (id:=pid) (vs:=cF) (hs:=dN) (step:=step) (start:=fun J=>start J (eM ls)) step_eq (fun I=>start_eq I ls) n
def gd (x0:an):Prop:=x0.length<=1048576
def post (x0:an)(y:an×Int×Int):Prop:=y.1=x0/\CI x0 y.2.1
def wp (x0:an)(hg:gd x0):∃n,Wp (start (iter step n) x0) (post x0):=by
 unfold gd at hg
 refine ⟨x0.length+2,lM (fun p=>match p with | .p0 a b c=>a=x0/\0<=c/\c<=x0.length) (fun p=>match p with | .p0 a b c=>(x0.length - c).toNat) (fun J p hI hJ=>?_) _ _ ⟨rfl,by omega,by omega⟩ (by show ((x0.length:Int) - 0).toNat<_;omega)⟩
 obtain ⟨a,b,c⟩:=p
 obtain ⟨rfl,h1,h2⟩:=hI
 have hf:∀b:Int,post a (a,0,b):=fun b=>⟨rfl,hg,Int.le_refl _,by show (0:Int)<=a.length;omega⟩
 refine wp_cond (fun c1=>wp_cond (fun c2=>?_) (fun c2=>wp_ret (hf b))) (fun c1=>wp_ret (hf b))
 have c1:=of_decide_eq_true c1
 have e:i64.wrap (c+1)=c+1:=wi _ (by omega)
 refine qk h1 c1 (hJ _ ⟨rfl,?_,?_⟩ ?_)
 ·show 0<=i64.wrap (c+1);omega
 ·show i64.wrap (c+1)<=_;omega
 ·show ((a.length:Int) - i64.wrap (c+1)).toNat<((a.length:Int) - c).toNat;omega
def R:(an)->Option (an×Int×Int):=RQ (fun n x=>start (iter step n) x) (fun x=>post x)
def ep {x0:an}{γ:Type}[RT γ]{k:(an×Int×Int)->aC}{Q:γ->Prop}(hg:gd x0)(hk:∀y,post x0 y->Wp (k y) Q):Wp (call (R x0) k) Q:=fN (wp x0 hg) hk
def acc (ls:List L):an:=(eM ls)
def aK:yC:=NC eI pats acc R
def af:tL Tryz.prog Ev 137 aK:=VN (live:=live) (mt:=false) mix aA .nil .nil .nil Tryz.func137 (by kernel_rfl) run_eq
def ic (_:Nat):gy:=Ci Ev aK
def bM (n:Nat):dY Tryz.prog Ev n 137 (ic n):=yB af
end Z1
namespace Z2
def F (x0:Int):aC:=ret ((⟨[[L.int x0]],1⟩):cV)
def md (a0:Int):aN:=(⟨[a0],1⟩)
def gd (a0:Int):Prop:=True
def R:=RR gd md
def aj {a0}(h:gd a0):R a0=some (aN.r (md a0)):=cO h
def aK:=CN [pI] (.agg f48) RT.dec R
def bn (a0)(hg:gd a0):F a0=ret (aN.r (md a0)):=fz
def af:bZ 256 aK:=W1 6 F mix aA bn .nil Tryz.func256
end Z2
namespace Z3
def F (x0:an)(x1 x2:Int):aC:=(cond (x1<(x0.length:Int)) (m2 x1 (x0.length:Int) (ret ((Hl.mk,(i64.wrap (x1+1)),(i64.wrap ((i64.wrap (x2*6364136223846793005))+1442695040888963407)),(vr .i64 (i64.wrap ((vr .i64 (nu .i64 (Int.fdiv (i64.wrap ((i64.wrap (x2*6364136223846793005))+1442695040888963407)) (2^33)) (Int.fdiv (i64.wrap ((i64.wrap (x2*6364136223846793005))+1442695040888963407)) (2^47))) 255)+(i64.wrap (gR x0 (toNat x1))))) 255)):Hl×Int×Int×Int))) (ret ((Hl.mk,x1,(i64.wrap ((i64.wrap (x2*6364136223846793005))+1442695040888963407)),(vr .i64 (nu .i64 (Int.fdiv (i64.wrap ((i64.wrap (x2*6364136223846793005))+1442695040888963407)) (2^33)) (Int.fdiv (i64.wrap ((i64.wrap (x2*6364136223846793005))+1442695040888963407)) (2^47))) 255)):Hl×Int×Int×Int)))
abbrev eI:List K:=[.sl 5,aE,aE]
def pats:List (Option fE):=[none]
def res:RP:=.one (.rd (.int .i64))
abbrev E:Env:={ T:=assoc mq,G:=cW [],nt:=58,M:=eW [],np:=(nC eI),mt:=false,I:=gp [] }
def run_eq (n:Nat)(ls:List L):eV E (fun _=>[]) Tryz.f230 (.cur eI res.parts) n (iI eI pats ls)=F (eM ls) (cI 1 ls) (cI 2 ls):=by kernel_rfl
def gd (x0:an)(x1 x2:Int):Prop:=CI x0 x1
def post (x0:an)(x1 x2:Int)(y:Hl×Int×Int×Int):Prop:=CI x0 y.2.1/\0<=y.2.2.2/\y.2.2.2<=255
def wp (x0:an)(x1 x2:Int)(hg:gd x0 x1 x2):Wp (F x0 x1 x2) (post x0 x1 x2):=by
 obtain ⟨h1,h2,h3⟩:=hg
 unfold F
 refine wp_cond (fun c=>?_) (fun c=>?_)
 ·refine qk h2 (of_decide_eq_true c) (wp_ret ⟨⟨h1,?_,?_⟩,uN _⟩)
  ·have:=of_decide_eq_true c;show 0<=i64.wrap (x1+1);rw [wi _ (by omega)];omega
  ·have:=of_decide_eq_true c;show i64.wrap (x1+1)<=_;rw [wi _ (by omega)];omega
 ·exact wp_ret ⟨⟨h1,h2,h3⟩,uN _⟩
def R:(an×Int×Int)->Option (Hl×Int×Int×Int):=RQ (fun _ x=>F x.1 x.2.1 x.2.2) (fun x=>post x.1 x.2.1 x.2.2)
def ep {x0:an}{x1 x2:Int}{γ:Type}[RT γ]{k:(Hl×Int×Int×Int)->aC}{Q:γ->Prop}(hg:gd x0 x1 x2)(hk:∀y,post x0 x1 x2 y->Wp (k y) Q):Wp (call (R (x0,x1,x2)) k) Q:=fN ⟨0,wp x0 x1 x2 hg⟩ hk
def acc (ls:List L):an×Int×Int:=((eM ls),(cI 1 ls),(cI 2 ls))
def aK:jX:=CC eI pats res acc R
def af:gL Tryz.prog Ev 230 aK:=VC (live:=(fun _=>[])) (mt:=false) mix aA .nil .nil .nil Tryz.func230 (by kernel_rfl) run_eq
def ic (_:Nat):gy:=kg Ev aK
def bM (n:Nat):dY Tryz.prog Ev n 230 (ic n):=eY af
end Z3
namespace Z4
def F (x0:an)(x1 x2 x3:Int):aC:=(cond (x3<=0) (ret ((Hl.mk,x1,x2,0):Hl×Int×Int×Int)) (cond (x3<=256) (call (Z3.R (x0,x1,x2)) fun v1=>(cond (x3=0) none (ret ((Hl.mk,v1.2.1,v1.2.2.1,(Int.tmod v1.2.2.2 x3)):Hl×Int×Int×Int)))) (call (Z3.R (x0,x1,x2)) fun v2=>(call (Z3.R (x0,v2.2.1,v2.2.2.1)) fun v3=>(call (Z3.R (x0,v3.2.1,v3.2.2.1)) fun v4=>(cond (x3=0) none (ret ((Hl.mk,v4.2.1,v4.2.2.1,(Int.tmod (i64.wrap ((i64.wrap ((i64.wrap (v2.2.2.2*65536))+(i64.wrap (v3.2.2.2*256))))+v4.2.2.2)) x3)):Hl×Int×Int×Int))))))))
abbrev eI:List K:=[.sl 5,aE,aE]
def pats:List (Option fE):=[none,some (.rd (.int .i64))]
def res:RP:=.one (.rd (.int .i64))
abbrev E:Env:={ T:=assoc mq,G:=cW [],nt:=31,M:=eW [],np:=(nC eI),mt:=false,I:=gp [(230,Z3.ic (nC eI))] }
def run_eq (n:Nat)(ls:List L):eV E (fun _=>[]) Tryz.f139 (.cur eI res.parts) n (iI eI pats ls)=F (eM ls) (cI 1 ls) (cI 2 ls) (cI 3 ls):=by kernel_rfl
def gd (x0:an)(x1 x2 x3:Int):Prop:=CI x0 x1
def post (x0:an)(x1 x2 x3:Int)(y:Hl×Int×Int×Int):Prop:=CI x0 y.2.1/\(x3<=0->y.2.2.2=0)/\(0<x3->0<=y.2.2.2/\y.2.2.2<x3)
def wp (x0:an)(x1 x2 x3:Int)(hg:gd x0 x1 x2 x3):Wp (F x0 x1 x2 x3) (post x0 x1 x2 x3):=by
 unfold F
 refine wp_cond (fun c=>wp_ret ⟨hg,fun _=>rfl,fun h=>?_⟩) (fun c=>?_)
 ·have:=of_decide_eq_true c;omega
 have c:=of_decide_eq_false c
 refine wp_cond (fun c2=>?_) (fun c2=>?_)
 ·refine Z3.ep hg (fun v ⟨hv,h1,h2⟩=>wp_cond (fun c3=>absurd (of_decide_eq_true c3) (by omega)) (fun c3=>wp_ret ⟨hv,fun h=>absurd h c,fun h=>rU h1 h⟩))
 ·refine Z3.ep hg (fun v ⟨hv,h1,h2⟩=>Z3.ep hv (fun v' ⟨hv',h1',h2'⟩=>Z3.ep hv' (fun w ⟨hw,h1'',h2''⟩=>wp_cond (fun c3=>absurd (of_decide_eq_true c3) (by omega)) (fun c3=>wp_ret ⟨hw,fun h=>absurd h c,fun h=>rU ?_ h⟩))))
  rw [wi (v.2.2.2*65536) (by omega),wi (v'.2.2.2*256) (by omega),wi (v.2.2.2*65536+v'.2.2.2*256) (by omega),wi _ (by omega)]
  omega
def R:(an×Int×Int×Int)->Option (Hl×Int×Int×Int):=RQ (fun _ x=>F x.1 x.2.1 x.2.2.1 x.2.2.2) (fun x=>post x.1 x.2.1 x.2.2.1 x.2.2.2)
def mS {x0:an}{x1 x2 x3:Int}(hg:gd x0 x1 x2 x3):∃y,R (x0,x1,x2,x3)=some y/\post x0 x1 x2 x3 y:=pJ ⟨0,wp x0 x1 x2 x3 hg⟩
def ep {x0:an}{x1 x2 x3:Int}{γ:Type}[RT γ]{k:(Hl×Int×Int×Int)->aC}{Q:γ->Prop}(hg:gd x0 x1 x2 x3)(hk:∀y,post x0 x1 x2 x3 y->Wp (k y) Q):Wp (call (R (x0,x1,x2,x3)) k) Q:=fN ⟨0,wp x0 x1 x2 x3 hg⟩ hk
def acc (ls:List L):an×Int×Int×Int:=((eM ls),(cI 1 ls),(cI 2 ls),(cI 3 ls))
def aK:jX:=CC eI pats res acc R
def af:gL Tryz.prog Ev 139 aK:=VC (live:=(fun _=>[])) (mt:=false) mix aA .nil .nil (.cons (Z3.bM (nC eI)) .nil) Tryz.func139 (by kernel_rfl) run_eq
def ic (_:Nat):gy:=kg Ev aK
def bM (n:Nat):dY Tryz.prog Ev n 139 (ic n):=eY af
end Z4
namespace Z5
def F (x0:an)(x1 x2:Int)(x3:an):aC:=(call (Z4.R (x0,x1,x2,(x3.length:Int))) fun v1=>(ck ((0:Int)<=v1.2.2.2) (ck (v1.2.2.2<(x3.length:Int)) (ret ((Hl.mk,v1.2.1,v1.2.2.1,(rV x3 (toNat v1.2.2.2))):Hl×Int×Int×az)))))
abbrev eI:List K:=[.sl 5,aE,aE]
def pats:List (Option fE):=[none,some (.rd (.sl 9))]
def res:RP:=.one (.rd (.str))
abbrev E:Env:={ T:=assoc mq,G:=cW [],nt:=12,M:=eW [],np:=(nC eI),mt:=false,I:=gp [(139,Z4.ic (nC eI))] }
def run_eq (n:Nat)(ls:List L):eV E (fun _=>[]) Tryz.f192 (.cur eI res.parts) n (iI eI pats ls)=F (eM ls) (cI 1 ls) (cI 2 ls) (fJ 3 ls):=by kernel_rfl
def gd (x0:an)(x1 x2:Int)(x3:an):Prop:=CI x0 x1/\0<x3.length
def post (x0:an)(x1 x2:Int)(x3:an)(y:Hl×Int×Int×az):Prop:=CI x0 y.2.1/\∃i,i<x3.length/\y.2.2.2=rV x3 i
def wp (x0:an)(x1 x2:Int)(x3:an)(hg:gd x0 x1 x2 x3):Wp (F x0 x1 x2 x3) (post x0 x1 x2 x3):=by
 unfold F
 refine Z4.ep hg.1 (fun v ⟨hv,_,h⟩=>?_)
 obtain ⟨h1,h2⟩:=h (by have:=hg.2;omega)
 exact fO (decide_eq_true h1) (fO (decide_eq_true h2) (wp_ret ⟨hv,_,by omega,rfl⟩))
def R:(an×Int×Int×an)->Option (Hl×Int×Int×az):=RQ (fun _ x=>F x.1 x.2.1 x.2.2.1 x.2.2.2) (fun x=>post x.1 x.2.1 x.2.2.1 x.2.2.2)
def ep {x0:an}{x1 x2:Int}{x3:an}{γ:Type}[RT γ]{k:(Hl×Int×Int×az)->aC}{Q:γ->Prop}(hg:gd x0 x1 x2 x3)(hk:∀y,post x0 x1 x2 x3 y->Wp (k y) Q):Wp (call (R (x0,x1,x2,x3)) k) Q:=fN ⟨0,wp x0 x1 x2 x3 hg⟩ hk
def acc (ls:List L):an×Int×Int×an:=((eM ls),(cI 1 ls),(cI 2 ls),(fJ 3 ls))
def aK:jX:=CC eI pats res acc R
def af:gL Tryz.prog Ev 192 aK:=VC (live:=(fun _=>[])) (mt:=false) mix aA .nil .nil (.cons (Z4.bM (nC eI)) .nil) Tryz.func192 (by kernel_rfl) run_eq
def ic (_:Nat):gy:=kg Ev aK
def bM (n:Nat):dY Tryz.prog Ev n 192 (ic n):=eY af
end Z5
namespace Z6
def F (x0:an)(x1 x2:Int):aC:=(call (Z5.R (x0,x1,x2,[[L.str (⟨#[97,110,110]⟩:az)],[L.str (⟨#[98,111,98]⟩:az)],[L.str (⟨#[98,97,110,107]⟩:az)],[L.str (⟨#[115,104,111,112]⟩:az)],[L.str (⟨#[115,104,48,112]⟩:az)],[L.str (⟨#[53,104,111,112]⟩:az)],[L.str (⟨#[109,97,105,108]⟩:az)],[L.str (⟨#[109,97,45,105,108]⟩:az)],[L.str (⟨#[97]⟩:az)]])) fun v1=>ret ((Hl.mk,v1.2.1,v1.2.2.1,v1.2.2.2):Hl×Int×Int×az))
abbrev eI:List K:=[.sl 5,aE,aE]
def pats:List (Option fE):=[none]
def res:RP:=.one (.rd (.str))
abbrev E:Env:={ T:=assoc mq,G:=cW [],nt:=6,M:=eW [],np:=(nC eI),mt:=false,I:=gp [(192,Z5.ic (nC eI))] }
def run_eq (n:Nat)(ls:List L):eV E (fun _=>[]) Tryz.f237 (.cur eI res.parts) n (iI eI pats ls)=F (eM ls) (cI 1 ls) (cI 2 ls):=by kernel_rfl
def gd (x0:an)(x1 x2:Int):Prop:=CI x0 x1
def post (x0:an)(x1 x2:Int)(y:Hl×Int×Int×az):Prop:=CI x0 y.2.1/\y.2.2.2.size<=16
def wp (x0:an)(x1 x2:Int)(hg:gd x0 x1 x2):Wp (F x0 x1 x2) (post x0 x1 x2):=by
 unfold F
 refine Z5.ep ⟨hg,by show 0<9;decide⟩ (fun v ⟨hv,i,hi,e⟩=>wp_ret ⟨hv,?_⟩)
 show v.2.2.2.size<=16
 rw [e]
 exact lq rfl hi
def R:(an×Int×Int)->Option (Hl×Int×Int×az):=RQ (fun _ x=>F x.1 x.2.1 x.2.2) (fun x=>post x.1 x.2.1 x.2.2)
def ep {x0:an}{x1 x2:Int}{γ:Type}[RT γ]{k:(Hl×Int×Int×az)->aC}{Q:γ->Prop}(hg:gd x0 x1 x2)(hk:∀y,post x0 x1 x2 y->Wp (k y) Q):Wp (call (R (x0,x1,x2)) k) Q:=fN ⟨0,wp x0 x1 x2 hg⟩ hk
def acc (ls:List L):an×Int×Int:=((eM ls),(cI 1 ls),(cI 2 ls))
def aK:jX:=CC eI pats res acc R
def af:gL Tryz.prog Ev 237 aK:=VC (live:=(fun _=>[])) (mt:=false) mix aA .nil .nil (.cons (Z5.bM (nC eI)) .nil) Tryz.func237 (by kernel_rfl) run_eq
def ic (_:Nat):gy:=kg Ev aK
def bM (n:Nat):dY Tryz.prog Ev n 237 (ic n):=eY af
end Z6
namespace Z7
def F (x0:az)(x1:Int):aC:=ret ((⟨x0,1,x1,[]⟩):bp)
def md (a0:az)(a1:Int):ah:=(⟨a0,1,a1,[]⟩)
def gd (a0:az)(a1:Int):Prop:=True
def R:=cL gd md
def aj {a0 a1}(h:gd a0 a1):R (a0,a1)=some (ah.r (md a0 a1)):=cK h
def aK:=CN [pS,pI] (.agg f62) RT.dec R
def bn (a0)(a1)(hg:gd a0 a1):F a0 a1=ret (ah.r (md a0 a1)):=fz
def af:bZ 329 aK:=W2 8 F mix aA bn .nil Tryz.func329
end Z7
namespace Z8
def F (x0 x1:az):aC:=(cond (Op.bytesLess x0.toList x1.toList) mG (cond (!((Op.bytesLess x0.toList x1.toList)||(x0.toList==x1.toList))) (ret (1:Int)) (ret (0:Int))))
def md (a0 a1:az):Int:=(cond (Op.bytesLess a0.toList a1.toList) ((-1):Int) (cond (!((Op.bytesLess a0.toList a1.toList)||(a0.toList==a1.toList))) (1:Int) (0:Int)))
def gd (a0 a1:az):Prop:=True
def R:=cL gd md
def aj {a0 a1}(h:gd a0 a1):R (a0,a1)=some (md a0 a1):=cK h
def aK:=CN [pS,pS] oI RT.dec R
def bn (a0)(a1)(hg:gd a0 a1):F a0 a1=ret (md a0 a1):=by
 refine bs (fun _=>rfl) (fun c1=>?_)
 refine bs (fun _=>rfl) (fun _=>rfl)
def af:bZ 102 aK:=W2 13 F mix aA bn .nil Tryz.func102
def vals (a b:az):md a b=-1∨md a b=0∨md a b=1:=by
 unfold md
 cases Op.bytesLess a.toList b.toList
 ·cases (!(false||(a.toList==b.toList)))<;>simp
 ·simp
def lt (a b:az):decide (md a b<0)=(md a b == -1):=by
 rcases vals a b with h | h | h<;>rw [h]<;>rfl
def gt (a b:az):decide (md a b>0)=(md a b==1):=by
 rcases vals a b with h | h | h<;>rw [h]<;>rfl
def bl:∀a b:List UInt8,(Op.bytesLess a b||a==b)=!(Op.bytesLess b a)
 | [],[]=>by simp [Op.bytesLess]
 | [],_::_=>by simp [Op.bytesLess]
 | _::_,[]=>by simp [Op.bytesLess]
 | a::xs,b::ys=>by
  have ih:=bl xs ys
  simp only [Op.bytesLess]
  by_cases h1:a<b
  ·have h2:¬b<a:=UInt8.not_lt.2 (UInt8.le_of_lt h1)
   have h3:¬b=a:=fun h=>by subst h;exact UInt8.lt_irrefl _ h1
   simp [h1,h2,h3]
  ·by_cases h2:a=b
   ·subst h2
    have hr:¬a<a:=UInt8.lt_irrefl a
    simp only [hr,decide_false,Bool.false_or,beq_self_eq_true,Bool.true_and,List.cons_beq_cons]
    exact ih
   ·have h3:b<a:=by
     rcases UInt8.lt_or_lt_of_ne h2 with h | h
     ·exact (h1 h).elim
     ·exact h
    simp [h1,h2,h3,List.cons_beq_cons]
def swap (a b:az):decide (md a b<=0)=(md b a != -1):=by
 unfold md
 rw [bl a.toList b.toList,bl b.toList a.toList]
 have h:=bl a.toList b.toList
 cases h1:Op.bytesLess a.toList b.toList<;>cases h2:Op.bytesLess b.toList a.toList<;>rw [h1,h2] at h<;>simp at h ⊢
end Z8
namespace Z9
def F (x0:an):aC:=(ck (eG (x0.length*16)) (ret (x0:an)))
def md (a0:List az):List az:=a0
def gd (a0:List az):Prop:=(bf (2^21) (fun y:az=>y.size<=(2^21)) a0)
def R:=RR gd md
def aj {a0}(h:gd a0):R (a0.map dO)=some (a0.map dO):=cO h
def aK:=CN [pL 9] (oL 9) RT.dec R
def bn (a0)(H0:gd a0):F (a0.map dO)=ret ((md a0).map dO):=aG (have:=(H0).1;lm) fz
def af:bZ 185 aK:=W1 6 F mix aA bn .nil Tryz.func185
end Z9
namespace Z10
def F (x0:bp):aC:=(call (Z9.R x0.bD) fun v1=>ret ((⟨x0.aZ,x0.bE,x0.bY,v1⟩):bp))
def md (a0:ah):ah:=a0
def gd (a0:ah):Prop:=(ah.Sm (2^21) a0)
def R:=RR gd md
def aj {a0}(h:gd a0):R (ah.r a0)=some (ah.r a0):=cO h
def aK:=CN [.agg vY] (.agg f62) RT.dec R
def bn (a0)(H0:gd a0):F (ah.r a0)=ret (ah.r (md a0)):=ct (Z9.aj H0.2) fz
def af:bZ 168 aK:=W1 13 F mix aA bn (cM Z9.af) Tryz.func168
end Z10
namespace Z11
def F (x0 x1 x2:Int):aC:=(cond (x0>=x1) (ret ((decide (x0<=x2)))) (ret false))
def md (a0 a1 a2:Int):Bool:=(cond (a0>=a1) ((decide (a0<=a2))) false)
def gd (a0 a1 a2:Int):Prop:=True
def R:=lY gd md
def aj {a0 a1 a2}(h:gd a0 a1 a2):R (a0,a1,a2)=some (md a0 a1 a2):=lV h
def aK:=CN [pI,pI,pI] oB RT.dec R
def bn (a0)(a1)(a2)(hg:gd a0 a1 a2):F a0 a1 a2=ret (md a0 a1 a2):=by
 refine bs (fun c1=>?_) (fun _=>rfl)
 exact fz
def af:bZ 190 aK:=W3 15 F mix aA bn .nil Tryz.func190
end Z11
namespace Z12
inductive Pt where
 | p0 (a:az) (b:Int)
def cF:Pt->List V
 | .p0 a b=>[.str a,.int .i64 b]
def step (J:Pt->aC):Pt->aC
 | .p0 a b=>(cond (b<(a.size:Int)) (m2 b (a.size:Int) (cond ((eH a (toNat b))<97) (m2 b (a.size:Int) (cond ((eH a (toNat b))<48) (m2 b (a.size:Int) (cond ((eH a (toNat b)) != 45) fq (J (.p0 a (i64.wrap (b+1)))))) (m2 b (a.size:Int) (cond ((eH a (toNat b))>57) (m2 b (a.size:Int) (cond ((eH a (toNat b)) != 45) fq (J (.p0 a (i64.wrap (b+1)))))) (J (.p0 a (i64.wrap (b+1)))))))) (m2 b (a.size:Int) (cond ((eH a (toNat b))>122) (m2 b (a.size:Int) (cond ((eH a (toNat b))<48) (m2 b (a.size:Int) (cond ((eH a (toNat b)) != 45) fq (J (.p0 a (i64.wrap (b+1)))))) (m2 b (a.size:Int) (cond ((eH a (toNat b))>57) (m2 b (a.size:Int) (cond ((eH a (toNat b)) != 45) fq (J (.p0 a (i64.wrap (b+1)))))) (J (.p0 a (i64.wrap (b+1)))))))) (J (.p0 a (i64.wrap (b+1)))))))) nN)
def start (J:Pt->aC)(x0:az):aC:=(call (Z11.R (x0.size,1,8)) fun v1=>(cond (!v1) (ret false) (ck ((0:Int)<x0.size) (cond ((eH x0 0)==45) (ret false) (ck ((0:Int)<=(i64.wrap (x0.size - 1))) (ck ((i64.wrap (x0.size - 1))<x0.size) (cond ((eH x0 (toNat (i64.wrap (x0.size - 1))))==45) (ret false) (J (.p0 x0 0)))))))))
def live:Nat->Live:=gx [(4,iR [0,3])]
def md (a0:az):Bool:=(bif (!(Z11.md a0.size 1 8)) then false else (bif ((eH a0 0)==45) then false else (bif ((eH a0 (toNat (i64.wrap (a0.size - 1))))==45) then false else (eu (S:=Unit) (β:=Bool) (fun i4 s6=>(cond ((eH a0 i4)<97) (cond ((eH a0 i4)<48) (cond ((eH a0 i4) != 45) (.inr false) (.inl ())) (cond ((eH a0 i4)>57) (cond ((eH a0 i4) != 45) (.inr false) (.inl ())) (.inl ()))) (cond ((eH a0 i4)>122) (cond ((eH a0 i4)<48) (cond ((eH a0 i4) != 45) (.inr false) (.inl ())) (cond ((eH a0 i4)>57) (cond ((eH a0 i4) != 45) (.inr false) (.inl ())) (.inl ()))) (.inl ())))) (fun s6=>true) a0.size 0 ()))))
def gd (a0:az):Prop:=(a0.size<=(2^22))
def R:=RR gd md
def aj {a0}(h:gd a0):R a0=some (md a0):=cO h
def aK:=CN [pS] oB RT.dec R
def bn (a0)(H0:gd a0):∃n,start (iter step n) a0=ret (md a0):=by
 refine cx (Z11.aj trivial) (gB ret (fun _=>⟨0,rfl⟩) (fun c1=>?_))
 have Dc1:=c1
 simp [Z11.md] at Dc1
 refine dJ (have:=H0;dt) (gB ret (fun _=>⟨0,rfl⟩) (fun c2=>?_))
 refine dJ (have:=H0;dt) (dJ (have:=H0;dt) ?_)
 refine gB ret (fun _=>⟨0,rfl⟩) (fun c3=>?_)
 have Bh5:a0.size<=maxLen:=(by
   simp only [maxLen] at *
   omega)
 refine dc fz (bH (pt:=fun (i4:Nat) (s6:Unit)=>Pt.p0 a0 (i4:Int)) (fun _ _=>True) (fun J i4 s6 h5 hih5=>?_) (fun s6 hih5=>?_) trivial)
 ·simp only [step,SS]
  refine aP.yes dt (aP.yes bu ?_)
  refine aP.yes (bK h5) (aP.bif (fun c7=>?_) (fun c7=>?_))
  ·refine aP.yes bu (aP.yes (bK h5) ?_)
   refine aP.bif (fun c8=>?_) (fun c8=>?_)
   ·refine aP.yes bu (aP.yes (bK h5) ?_)
    refine aP.bif (fun _=>aP.inr rfl) (fun c9=>?_)
    refine aP.inl trivial ?_
    rw [aF h5 Bh5]
   ·refine aP.yes bu (aP.yes (bK h5) ?_)
    refine aP.bif (fun c10=>?_) (fun c10=>?_)
    ·refine aP.yes bu (aP.yes (bK h5) ?_)
     refine aP.bif (fun _=>aP.inr rfl) (fun c11=>?_)
     refine aP.inl trivial ?_
     rw [aF h5 Bh5]
    ·refine aP.inl trivial ?_
     rw [aF h5 Bh5]
  ·refine aP.yes bu (aP.yes (bK h5) ?_)
   refine aP.bif (fun c12=>?_) (fun c12=>?_)
   ·refine aP.yes bu (aP.yes (bK h5) ?_)
    refine aP.bif (fun c13=>?_) (fun c13=>?_)
    ·refine aP.yes bu (aP.yes (bK h5) ?_)
     refine aP.bif (fun _=>aP.inr rfl) (fun c14=>?_)
     refine aP.inl trivial ?_
     rw [aF h5 Bh5]
    ·refine aP.yes bu (aP.yes (bK h5) ?_)
     refine aP.bif (fun c15=>?_) (fun c15=>?_)
     ·refine aP.yes bu (aP.yes (bK h5) ?_)
      refine aP.bif (fun _=>aP.inr rfl) (fun c16=>?_)
      refine aP.inl trivial ?_
      rw [aF h5 Bh5]
     ·refine aP.inl trivial ?_
      rw [aF h5 Bh5]
   ·refine aP.inl trivial ?_
    rw [aF h5 Bh5]
 ·simp only [step,SS]
  refine cH dn (⟨0,?_⟩)
  exact fz
def af:bZ 189 aK:=L1 55 (fun _=>4) cF (fun _=>[]) live step start mix aA bn (cM Z11.af) Tryz.func189
def tr {a0:az}(h:md a0=true):1<=a0.size/\a0.size<=8:=by
 unfold md at h
 cases e:Z11.md (a0.size:Int) 1 8
 ·rw [e] at h;cases h
 ·simp [Z11.md] at e;omega
end Z12
namespace Z13
inductive Pt where
 | p0 (a:an) (b:Int)
def cF:Pt->List V
 | .p0 a b=>[.sl none 9 a,.int .i64 b]
def step (J:Pt->aC):Pt->aC
 | .p0 a b=>(cond (b<(a.length:Int)) (m2 b (a.length:Int) (call (Z12.R (rV a (toNat b))) fun v1=>(cond (!v1) fq (J (.p0 a (i64.wrap (b+1))))))) (call (Z11.R ((a.length:Int),1,4)) fun v2=>ret (v2:Bool)))
def start (J:Pt->aC)(x0:an):aC:=J (.p0 x0 0)
def live:Nat->Live:=gx [(2,iR [0,3])]
def md (a0:List az):Bool:=(dQ (S:=Unit) (β:=Bool) (fun y1 s3=>(cond (!(Z12.md y1)) (.inr false) (.inl ()))) (fun s3=>((Z11.md a0.length 1 4))) a0 ())
def gd (a0:List az):Prop:=(bf (2^22) (fun y:az=>y.size<=(2^22)) a0)
def R:=RR gd md
def aj {a0}(h:gd a0):R (a0.map dO)=some (md a0):=cO h
def aK:=CN [pL 9] oB RT.dec R
def bn (a0)(H0:gd a0):∃n,start (iter step n) (a0.map dO)=ret (md a0):=by
 have Bh2:=bl H0
 refine ex_eq (dV (z:=⟨#[]⟩)) (dc fz ?_)
 refine bH (pt:=fun (i1:Nat) (s3:Unit)=>Pt.p0 (a0.map dO) (i1:Int)) (fun _ _=>True) (fun J i1 s3 h2 hih2=>?_) (fun s3 hih2=>?_) trivial
 ·simp only [step,SS]
  refine aP.yes dt (aP.yes bu ?_)
  refine aP.yes (bK h2) (cr (Z12.aj (bf.getD H0 h2)) ?_)
  refine aP.bif (fun _=>aP.inr rfl) (fun c4=>?_)
  refine aP.inl trivial ?_
  rw [aF h2 Bh2]
 ·simp only [step,SS]
  refine cH dn (cx (Z11.aj trivial) ?_)
  refine ⟨0,?_⟩
  exact fz
def af:bZ 65 aK:=L1 19 (fun _=>2) cF (fun _=>[]) live step start mix aA bn (eS Z12.af Z11.af) Tryz.func65
def tr {a0:List az}(h:md a0=true):(1<=a0.length/\a0.length<=4)/\∀x∈a0,x.size<=8:=by
 have e:=nA (p:=fun y=>!(Z12.md y)) (b:=false) (c:=Z11.md (a0.length:Int) 1 4) (xs:=a0) (s:=())
 rw [show md a0=_ from e] at h
 cases ha:a0.any (fun y=>!(Z12.md y))<;>rw [ha] at h
 ·have h2:Z11.md (a0.length:Int) 1 4=true:=h
  simp [Z11.md] at h2
  refine ⟨by omega,fun x hx=>?_⟩
  rw [List.any_eq_false] at ha
  have:=ha x hx
  exact (Z12.tr (by simpa using this)).2
 ·cases h
def tl {x:az}{xs:List az}(h:md (x::xs)=true)(hx:¬xs.length=0):md xs=true:=by
 have key:∀a:List az,md a=bif a.any (fun y=>!(Z12.md y)) then false else Z11.md (a.length:Int) 1 4:=fun a=>nA (b:=false) (c:=Z11.md (a.length:Int) 1 4) (xs:=a)
 have t:=tr h
 simp only [List.length_cons] at t
 rw [key] at h ⊢
 rw [List.any_cons] at h
 cases h1:xs.any (fun y=>!(Z12.md y)) with
 | true=>rw [h1,Bool.or_true] at h;cases h
 | false=>simp [Z11.md];omega
end Z13
namespace Z14
def F (x0:bp):aC:=(cond (x0.bE==1) (call (Z12.R x0.aZ) fun v1=>(cond v1 (call (Z11.R (x0.bY,0,999999)) fun v2=>(cond v2 (ret (((x0.bD.length:Int)==0))) (ret false))) (ret false))) (cond (x0.bE==2) (call (Z12.R x0.aZ) fun v3=>(cond v3 (call (Z11.R (x0.bY,0,2147483646)) fun v4=>(cond v4 (ret (((x0.bD.length:Int)==0))) (ret false))) (ret false))) (cond (x0.bE==3) (call (Z12.R x0.aZ) fun v5=>(cond v5 (call (Z11.R (x0.bY,0,2147483646)) fun v6=>(cond v6 (call (Z13.R x0.bD) fun v7=>ret v7) (ret false))) (ret false))) (ret false))))
def md (a0:ah):Bool:=(cond (a0.bE==1) (cond (Z12.md a0.aZ) (cond (Z11.md a0.bY 0 999999) (((a0.bD.length:Int)==0)) false) false) (cond (a0.bE==2) (cond (Z12.md a0.aZ) (cond (Z11.md a0.bY 0 2147483646) (((a0.bD.length:Int)==0)) false) false) (cond (a0.bE==3) (cond (Z12.md a0.aZ) (cond (Z11.md a0.bY 0 2147483646) ((Z13.md a0.bD)) false) false) false)))
def gd (a0:ah):Prop:=(ah.Sm (2^21) a0)
def R:=RR gd md
def aj {a0}(h:gd a0):R (ah.r a0)=some (md a0):=cO h
def aK:=CN [.agg vY] oB RT.dec R
def bn (a0)(H0:gd a0):F (ah.r a0)=ret (md a0):=by
 refine bs (fun c1=>?_) (fun c1=>?_)
 ·refine ct (Z12.aj (le_trans H0.1 (by decide))) (bs (fun c2=>?_) (fun _=>rfl))
  refine ct (Z11.aj trivial) (bs (fun c3=>?_) (fun _=>rfl))
  exact fz
 ·refine bs (fun c4=>?_) (fun c4=>?_)
  ·refine ct (Z12.aj (le_trans H0.1 (by decide))) (bs (fun c5=>?_) (fun _=>rfl))
   refine ct (Z11.aj trivial) (bs (fun c6=>?_) (fun _=>rfl))
   exact fz
  ·refine bs (fun c7=>?_) (fun _=>rfl)
   refine ct (Z12.aj (le_trans H0.1 (by decide))) (bs (fun c8=>?_) (fun _=>rfl))
   refine ct (Z11.aj trivial) (bs (fun c9=>?_) (fun _=>rfl))
   exact ct (Z13.aj (H0.2.mono (by decide) (fun x hx=>(le_trans hx (by decide))))) fz
def af:bZ 316 aK:=W1 52 F mix aA bn (jw Z12.af Z11.af Z13.af) Tryz.func316
end Z14
namespace Z15
inductive Pt where
 | p0 (a:an) (b:Int)
def cF:Pt->List V
 | .p0 a b=>[.sl none 62 a,.int .i64 b]
def step (J:Pt->aC):Pt->aC
 | .p0 a b=>(cond (b<(a.length:Int)) (m2 b (a.length:Int) (call (Z14.R (bp.at a (toNat b))) fun v1=>(cond (!v1) fq (cond (b>0) (ck ((0:Int)<=(i64.wrap (b - 1))) (ck ((i64.wrap (b - 1))<(a.length:Int)) (m2 b (a.length:Int) (call (Z8.R ((bp.at a (toNat (i64.wrap (b - 1)))).aZ,(bp.at a (toNat b)).aZ)) fun v2=>(cond (v2 != (-1)) fq (J (.p0 a (i64.wrap (b+1))))))))) (J (.p0 a (i64.wrap (b+1)))))))) (ret ((decide ((a.length:Int)<=12)):Bool)))
def start (J:Pt->aC)(x0:an):aC:=J (.p0 x0 0)
def live:Nat->Live:=gx [(2,iR [0,3])]
def md (a0:List ah):Bool:=(dD (S:=Unit) (β:=Bool) (fun (i1:Nat) (y1:ah) (s3:Unit)=>(cond (!(Z14.md y1)) (.inr (false:Bool)) (cond ((i1:Int)>0) (cond ((Z8.md ((a0.getD (toNat (i64.wrap ((i1:Int) - 1))) ah.zero).aZ) (y1.aZ)) != (-1)) (.inr (false:Bool)) (.inl ())) (.inl ())))) (fun (s3:Unit)=>((decide ((a0.length:Int)<=12)):Bool)) 0 a0 ())
def gd (a0:List ah):Prop:=(bf (2^21) (fun y:ah=>ah.Sm (2^21) y) a0)
def R:=RR gd md
def aj {a0}(h:gd a0):R (a0.map ah.row)=some (md a0):=cO h
def aK:=CN [pL 62] oB RT.dec R
def bn (a0)(hg:gd a0):∃n,start (iter step n) (a0.map ah.row)=ret (md a0):=by
 unfold gd at hg
 have H0:=hg
 unfold start md
 try simp only [SS]
 have Bh2:a0.length<=maxLen:=(by
   have:=(H0).1
   try simp only [maxLen] at *
   omega)
 refine ex_eq (out:=ret) (cC (z:=ah.zero)) ?_
 refine dc (p:=Pt.p0 (a0.map ah.row) 0) fz ?_
 refine bH (pt:=fun (i1:Nat) (s3:Unit)=>Pt.p0 (a0.map ah.row) (i1:Int)) (s:=(():Unit)) (out:=ret) (fun _ _=>True) (fun J i1 s3 h2 hih2=>?_) (fun s3 hih2=>?_) trivial
 ·simp only [step,SS]
  have bb_:=Bh2
  simp only [maxLen] at bb_
  have:=(H0).1
  refine aP.yes (by apply decide_eq_true;omega) ?_
  refine aP.yes bu ?_
  refine aP.yes (bK h2) ?_
  refine cr (Z14.aj (bf.getD (z:=ah.zero) H0 h2)) ?_
  refine aP.bif (fun _=>aP.inr rfl) (fun c4=>?_)
  have dc4:=c4
  try simp only [DC] at dc4
  refine aP.bif (fun c5=>?_) (fun c5=>?_)
  ·have dc5:=c5
   try simp only [DC] at dc5
   refine aP.yes dt ?_
   refine aP.yes (have:=(H0).1;dt) ?_
   refine aP.yes bu ?_
   refine aP.yes (bK h2) ?_
   refine cr (Z8.aj trivial) ?_
   refine aP.bif (fun _=>aP.inr rfl) (fun c6=>?_)
   refine aP.inl trivial ?_
   rw [aF h2 Bh2]
   all_goals exact fz
  ·refine aP.inl trivial ?_
   rw [aF h2 Bh2]
   all_goals exact fz
 ·simp only [step,SS]
  have:=(H0).1
  refine cH (by apply decide_eq_false;omega) ?_
  refine ⟨0,?_⟩
  all_goals exact fz
def af:bZ 307 aK:=L1 38 (fun _=>2) cF (fun _=>[]) live step start mix aA bn (eS Z14.af Z8.af) Tryz.func307
def tr {a0:List ah}(h:md a0=true):a0.length<=12:=by
 refine Classical.byContradiction fun hc=>?_
 have e1:decide ((a0.length:Int)<=12)=false:=by apply decide_eq_false;omega
 unfold md at h
 rw [e1] at h
 rw [kG (c:=false)] at h
 ·cases h
 ·intro i x s b h
  revert h
  simp only [Bool.cond_eq_ite]
  repeat' split
  all_goals (intro h;first | (cases h;rfl) | cases h)
end Z15
namespace Z16
inductive Pt where
 | p0 (a:an) (b:Int) (c:an)
def cF:Pt->List V
 | .p0 a b c=>[.sl none 62 a,.own 0,.int .i64 b]
def dN:Pt->List aL
 | .p0 a b c=>[.row 62 c]
def step (J:Pt->aC):Pt->aC
 | .p0 a b c=>(cond (b<(a.length:Int)) (m2 b (a.length:Int) (call (Z10.R (bp.at a (toNat b))) fun v1=>(ck (eG (((c.length:Int)+1)*56)) (J (.p0 a (i64.wrap (b+1)) (c++[(bp.enc v1)])))))) (ret (c:an)))
def start (J:Pt->aC)(x0:an):aC:=J (.p0 x0 0 [])
def live:Nat->Live:=gx [(3,[(0,none),(3,some 62),(4,none)])]
def md (a0:List ah):List ah:=a0
def gd (a0:List ah):Prop:=(bf (2^21) (fun y:ah=>ah.Sm (2^21) y) a0)
def R:=RR gd md
def aj {a0}(h:gd a0):R (a0.map ah.row)=some (a0.map ah.row):=cO h
def aK:=CN [pL 62] (oL 62) RT.dec R
def bn (a0)(H0:gd a0):∃n,start (iter step n) (a0.map ah.row)=ret ((md a0).map ah.row):=by
 have Bh2:=bl H0
 refine ex_eq (out:=(fun b:List ah=>ret ((b.map ah.row):an))) (gW (xs:=a0) (z:=ah.zero) (t:=fun s3:List ah=>s3)) (dc fz ?_)
 refine bH (pt:=fun (i1:Nat) (s3:List ah)=>Pt.p0 (a0.map ah.row) (i1:Int) (s3.map ah.row)) (s:=([]:List ah)) (out:=(fun b:List ah=>ret ((b.map ah.row):an))) (fun (i1:Nat) (s3:List ah)=>s3.length<=([]:List Int).length+1*i1) (fun J i1 s3 h2 hih2=>?_) (fun s3 hih2=>?_) (by simp)
 ·simp only [step,SS]
  have gr_:=hih2
  simp only [LN] at gr_
  have:=(H0).1
  refine aP.yes dt (aP.yes bu ?_)
  refine aP.yes (bK h2) (cr (Z10.aj (bf.getD H0 h2)) ?_)
  refine aP.yes lm ?_
  refine aP.inl (by
    (simp;omega)) ?_
  rw [aF h2 Bh2]
  exact fz
 ·simp only [step,SS]
  refine cH dn (⟨0,?_⟩)
  exact fz
def af:bZ 327 aK:=L1 21 (fun _=>3) cF dN live step start mix aA bn (cM Z10.af) Tryz.func327
end Z16
namespace Z17
inductive Pt where
 | p0 (a:an) (b:Bool) (c:Int) (d:bp) (e:an)
def pid:Pt->Nat
 | .p0 ..=>4
def cF:Pt->List V
 | .p0 a b c d e=>[.sl none 62 a,.bN 0 0,.own 1,.bool b,.int .i64 c]
def dN:Pt->List aL
 | .p0 a b c d e=>[.box [.str d.aZ,.int .i64 d.bE,.int .i64 d.bY,.sl none 9 d.bD],.row 62 e]
def step (J:Pt->aC):Pt->aC
 | .p0 a b c d e=>(cond (c<(a.length:Int)) (m2 c (a.length:Int) (call (Z8.R ((bp.at a (toNat c)).aZ,d.aZ)) fun v1=>(cond (v1>=0) (cond (!b) (call (Z10.R d) fun v2=>(ck (eG (((e.length:Int)+1)*56)) (cond (v1 != 0) (m2 c (a.length:Int) (call (Z10.R (bp.at a (toNat c))) fun v3=>(ck (eG ((((e++[(bp.enc v2)]).length:Int)+1)*56)) (J (.p0 a true (i64.wrap (c+1)) d ((e++[(bp.enc v2)])++[(bp.enc v3)])))))) (J (.p0 a true (i64.wrap (c+1)) d (e++[(bp.enc v2)])))))) (cond (v1 != 0) (m2 c (a.length:Int) (call (Z10.R (bp.at a (toNat c))) fun v4=>(ck (eG (((e.length:Int)+1)*56)) (J (.p0 a b (i64.wrap (c+1)) d (e++[(bp.enc v4)])))))) (J (.p0 a b (i64.wrap (c+1)) d e)))) (cond (v1 != 0) (m2 c (a.length:Int) (call (Z10.R (bp.at a (toNat c))) fun v5=>(ck (eG (((e.length:Int)+1)*56)) (J (.p0 a b (i64.wrap (c+1)) d (e++[(bp.enc v5)])))))) (J (.p0 a b (i64.wrap (c+1)) d e)))))) (cond (!b) (call (Z10.R d) fun v6=>(ck (eG (((e.length:Int)+1)*56)) (call (Z15.R a) fun v7=>(cond (!v7) (call (Z16.R a) fun v8=>ret ((v8,false):an×Bool)) (call (Z15.R (e++[(bp.enc v6)])) fun v9=>(cond (!v9) (call (Z16.R a) fun v10=>ret ((v10,false):an×Bool)) (ret (((e++[(bp.enc v6)]),true):an×Bool)))))))) (call (Z15.R a) fun v11=>(cond (!v11) (call (Z16.R a) fun v12=>ret ((v12,false):an×Bool)) (call (Z15.R e) fun v13=>(cond (!v13) (call (Z16.R a) fun v14=>ret ((v14,false):an×Bool)) (ret ((e,true):an×Bool))))))))
def start (J:Pt->aC)(x0:an)(x1:bp):aC:=J (.p0 x0 false 0 x1 [])
def live:Nat->Live:=gx [(4,[(0,none),(3,none),(6,some 62),(7,none),(8,none)])]
def pats:List fE:=[.rd (.sl 62),.agg [.str,aE,aE,.sl 9]]
def res:RP:=.gS [(false,[.fr 62]),(false,[.rd (.bool)])]
abbrev E:Env:={ T:=assoc mq,G:=cW [(102,Z8.aK),(168,Z10.aK),(307,Z15.aK),(327,Z16.aK)],nt:=64,M:=eW [],np:=0,mt:=false,I:=gp [] }
def step_eq (I:dB)(p:Pt):dU E live I (pid p) (bJ Tryz.f273) (iN (live (pid p)) (cF p) (dN p)) (dz E Tryz.f273 res)=step (fun q=>I (pid q) (cF q) (dN q)) p:=by
 cases p<;>kernel_rfl
def start_eq (I:dB)(ls:List L):gJ E live I (bJ Tryz.f273) (dy pats ls) (dz E Tryz.f273 res)=start (fun q=>I (pid q) (cF q) (dN q)) (eM ls) (bp.dec (bA 1 ls)):=by kernel_rfl
def run_eq (n:Nat)(ls:List L):eV E live Tryz.f273 res n (dy pats ls)=start (iter step n) (eM ls) (bp.dec (bA 1 ls)):=dK (id:=pid) (vs:=cF) (hs:=dN) (step:=step) (start:=fun J=>start J (eM ls) (bp.dec (bA 1 ls))) step_eq (fun I=>start_eq I ls) n
def gd (x0:an)(x1:bp):Prop:=(∃m:List ah,x0=m.map ah.row/\bf 1000 (fun z:ah=>ah.Sm 64 z) m/\Z15.md m=true)/\∃e:ah,x1=ah.r e/\ah.Sm 64 e
def post (x0:an)(x1:bp)(y:an×Bool):Prop:=∃m:List ah,y.1=m.map ah.row/\bf (x0.length+1) (fun z:ah=>ah.Sm 64 z) m/\Z15.md m=true
def wp (x0:an)(x1:bp)(hg:gd x0 x1):∃n,Wp (start (iter step n) x0 x1) (post x0 x1):=by
 obtain ⟨⟨m,rfl,hm,ha⟩,e0,rfl,he⟩:=hg
 have big:∀{z:ah},ah.Sm 64 z->ah.Sm (2^21) z:=fun h=>ah.dL (by decide) h
 have hmb:bf (2^21) (fun z:ah=>ah.Sm (2^21) z) m:=hm.mono (by decide) fun _ h=>big h
 have hlen:=hm.1
 refine ⟨m.length+2,lM (fun p=>match p with | .p0 a b c d e=>a=m.map ah.row/\d=ah.r e0/\0<=c/\c<=m.length/\∃es:List ah,e=es.map ah.row/\(es.length:Int)<=c+(cond b 1 0)/\∀z∈es,ah.Sm 64 z) (fun p=>match p with | .p0 a b c d e=>((m.length:Int) - c).toNat) (fun J p hI hJ=>?_) _ _ ⟨rfl,rfl,Int.le_refl _,by omega,[],rfl,by show (0:Int)<=0+0;decide,fun _ h=>(nomatch h)⟩ (by show ((m.length:Int) - 0).toNat<_;omega)⟩
 obtain ⟨a,b,c,d,e⟩:=p
 obtain ⟨rfl,rfl,h1,h2,es,rfl,h3,h4⟩:=hI
 have hb:(cond b (1:Int) 0)<=1:=by cases b<;>decide
 have add:∀(es:List ah) (z:ah),(es.map ah.row)++[bp.enc (ah.r z)]=(es++[z]).map ah.row:=fun es z=>by rw [List.map_append];rfl
 have two:∀{es:List ah} {z:ah},(∀z∈es,ah.Sm 64 z)->ah.Sm 64 z->∀y∈es++[z],ah.Sm 64 y:=fun h1 h2 y hy=>(List.mem_append.1 hy).elim (h1 y) fun h=>by simp at h;subst h;exact h2
 have fin:∀(es:List ah),(es.length:Int)<=m.length+1->(∀z∈es,ah.Sm 64 z)->Wp (call (Z15.R (m.map ah.row)) fun v7=>(cond (!v7) (call (Z16.R (m.map ah.row)) fun v8=>ret ((v8,false):an×Bool)) (call (Z15.R (es.map ah.row)) fun v9=>(cond (!v9) (call (Z16.R (m.map ah.row)) fun v10=>ret ((v10,false):an×Bool)) (ret ((es.map ah.row,true):an×Bool)))))) (post (m.map ah.row) (ah.r e0)):=by
  intro es hl hs
  have hp:∀q:Bool,post (m.map ah.row) (ah.r e0) (m.map ah.row,q):=fun q=>⟨m,rfl,⟨by rw [List.length_map];omega,hm.2⟩,ha⟩
  refine bW (Z15.aj hmb) (wp_cond (fun _=>bW (Z16.aj hmb) (wp_ret (hp _))) (fun _=>bW (Z15.aj ⟨by omega,fun z hz=>big (hs z hz)⟩) (wp_cond (fun _=>bW (Z16.aj hmb) (wp_ret (hp _))) (fun hq=>wp_ret ⟨es,rfl,⟨by rw [List.length_map];omega,hs⟩,by simpa using hq⟩))))
 refine wp_cond (fun c1=>?_) (fun c1=>?_)
 ·have c1:=of_decide_eq_true c1
  rw [List.length_map] at c1
  have e1:i64.wrap (c+1)=c+1:=wi _ (by omega)
  have hc0:c.toNat<m.length:=by omega
  have hat:bp.at (m.map ah.row) (toNat c)=ah.r (m[c.toNat]):=ah.tw hc0
  have hSm:ah.Sm 64 m[c.toNat]:=hm.get hc0
  have hcl:c<((m.map ah.row).length:Int):=by rw [List.length_map];exact c1
  have lm:∀es:List ah,(es.length:Int)<=m.length+2->eG (((es.map ah.row).length+1:Int)*56)=true:=fun es h=>fQ (by rw [List.length_map];omega)
  have go:∀(b2:Bool) (es2:List ah),(es2.length:Int)<=c+1+(cond b2 1 0)->(∀z∈es2,ah.Sm 64 z)->Wp (J (.p0 (m.map ah.row) b2 (i64.wrap (c+1)) (ah.r e0) (es2.map ah.row))) (post (m.map ah.row) (ah.r e0)):=fun b2 es2 hl hs=>
   hJ _ ⟨rfl,rfl,by show 0<=i64.wrap (c+1);omega,by show i64.wrap (c+1)<=_;omega,es2,rfl,by rw [e1];exact hl,hs⟩ (by show ((m.length:Int) - i64.wrap (c+1)).toNat<((m.length:Int) - c).toNat;omega)
  refine qk h1 hcl ?_
  rw [hat]
  refine bW (Z8.aj trivial) (wp_cond (fun _=>wp_cond (fun cb=>?_) (fun _=>?_)) (fun _=>?_))
  ·have hbf:b=false:=by simpa using cb
   subst hbf
   have h3:(es.length:Int)<=c+0:=h3
   refine bW (Z10.aj (big he)) (fO (lm es (by omega)) ?_)
   rw [add]
   refine wp_cond (fun _=>qk h1 hcl (bW (Z10.aj (big hSm)) (fO (lm _ (by simp;omega)) ?_))) (fun _=>go true _ (by simp;omega) (two h4 he))
   rw [add]
   exact go true _ (by simp;omega) (two (two h4 he) hSm)
  ·refine wp_cond (fun _=>qk h1 hcl (bW (Z10.aj (big hSm)) (fO (lm es (by omega)) ?_))) (fun _=>go b es (by omega) h4)
   rw [add]
   exact go b _ (by simp;omega) (two h4 hSm)
  ·refine wp_cond (fun _=>qk h1 hcl (bW (Z10.aj (big hSm)) (fO (lm es (by omega)) ?_))) (fun _=>go b es (by omega) h4)
   rw [add]
   exact go b _ (by simp;omega) (two h4 hSm)
 ·refine wp_cond (fun cb=>?_) (fun _=>fin es (by omega) h4)
  have hbf:b=false:=by simpa using cb
  subst hbf
  have h3:(es.length:Int)<=c+0:=h3
  refine bW (Z10.aj (big he)) (fO (fQ (by rw [List.length_map];omega)) ?_)
  rw [add]
  exact fin _ (by simp;omega) (two h4 he)
def R:(an×bp)->Option (an×Bool):=RQ (fun n x=>start (iter step n) x.1 x.2) (fun x=>post x.1 x.2)
def ep {x0:an}{x1:bp}{γ:Type}[RT γ]{k:(an×Bool)->aC}{Q:γ->Prop}(hg:gd x0 x1)(hk:∀y,post x0 x1 y->Wp (k y) Q):Wp (call (R (x0,x1)) k) Q:=fN (wp x0 x1 hg) hk
def acc (ls:List L):an×bp:=((eM ls),(bp.dec (bA 1 ls)))
def aK:gu:=CN pats res acc R
def af:bZ 273 aK:=VQ (live:=live) (mt:=false) mix aA (nQ Z8.af Z10.af Z15.af Z16.af) .nil .nil Tryz.func273 (by kernel_rfl) run_eq
end Z17
namespace Z18
inductive Pt where
 | p0 (a b c:Int) (d e:an)
def pid:Pt->Nat
 | .p0 ..=>3
def cF:Pt->List V
 | .p0 a b c d e=>[.bN 0 0,.own 2,.int .i64 a]
def dN:Pt->List aL
 | .p0 a b c d e=>[.box [.own 1,.int .i64 b,.int .i64 c],.vw 5 d,.row 62 e]
def step (J:Pt->aC):Pt->aC
 | .p0 a b c d e=>(cond (a>0) (call (Z6.R (d,b,c)) fun v1=>(call (Z4.R (d,v1.2.1,v1.2.2.1,50)) fun v2=>(call (Z7.R (v1.2.2.2,v2.2.2.2)) fun v3=>(call (Z17.R (e,v3)) fun v4=>J (.p0 (i64.wrap (a - 1)) v2.2.1 v2.2.2.1 d v4.1))))) (ret ((Hl.mk,b,c,e):Hl×Int×Int×an)))
def start (J:Pt->aC)(x0:an)(x1 x2:Int):aC:=(call (Z4.R (x0,x1,x2,4)) fun v1=>J (.p0 v1.2.2.2 v1.2.1 v1.2.2.1 x0 []))
def live:Nat->Live:=gx [(3,[(0,none),(3,some 62),(4,none)])]
abbrev eI:List K:=[.sl 5,aE,aE]
def pats:List (Option fE):=[none]
def res:RP:=.one (.fr 62)
abbrev E:Env:={ T:=assoc mq,G:=cW [(329,Z7.aK),(273,Z17.aK)],nt:=23,M:=eW [],np:=(nC eI),mt:=false,I:=gp [(139,Z4.ic (nC eI)),(237,Z6.ic (nC eI))] }
def step_eq (I:dB)(p:Pt):dU E live I (pid p) (bJ Tryz.f272) (iN (live (pid p)) (cF p) (dN p)) (dz E Tryz.f272 (.cur eI res.parts))=step (fun q=>I (pid q) (cF q) (dN q)) p:=by
 cases p<;>kernel_rfl
def start_eq (I:dB)(ls:List L):gJ E live I (bJ Tryz.f272) (iI eI pats ls) (dz E Tryz.f272 (.cur eI res.parts))=start (fun q=>I (pid q) (cF q) (dN q)) (eM ls) (cI 1 ls) (cI 2 ls):=by kernel_rfl
def run_eq (n:Nat)(ls:List L):eV E live Tryz.f272 (.cur eI res.parts) n (iI eI pats ls)=start (iter step n) (eM ls) (cI 1 ls) (cI 2 ls):=dK (id:=pid) (vs:=cF) (hs:=dN) (step:=step) (start:=fun J=>start J (eM ls) (cI 1 ls) (cI 2 ls)) step_eq (fun I=>start_eq I ls) n
def gd (x0:an)(x1 x2:Int):Prop:=CI x0 x1
def post (x0:an)(x1 x2:Int)(y:Hl×Int×Int×an):Prop:=CI x0 y.2.1/\∃m:List ah,y.2.2.2=m.map ah.row/\bf 8 (fun z:ah=>ah.Sm 64 z) m/\Z15.md m=true
def wp (x0:an)(x1 x2:Int)(hg:gd x0 x1 x2):∃n,Wp (start (iter step n) x0 x1 x2) (post x0 x1 x2):=by
 have key:∀a d e,0<=a->a<=7->CI x0 d->∃n,Wp (iter step n (.p0 a d e x0 [])) (post x0 x1 x2):=by
  intro a d e h1 h2 h3
  refine ⟨9,lM (fun p=>match p with | .p0 a b c d e=>0<=a/\a<=7/\CI d b/\d=x0/\∃ms:List ah,e=ms.map ah.row/\(ms.length:Int)+a<=7/\(∀s∈ms,ah.Sm 64 s)/\Z15.md ms=true) (fun p=>match p with | .p0 a b c d e=>a.toNat) (fun J p hI hJ=>?_) _ _ ⟨h1,h2,h3,rfl,[],rfl,by show (0:Int)+a<=7;omega,fun _ h=>(nomatch h),rfl⟩ (by show a.toNat<9;omega)⟩
  obtain ⟨a,b,c,d,e⟩:=p
  obtain ⟨k1,k2,k3,rfl,ms,rfl,h6,h7,h8⟩:=hI
  refine wp_cond (fun c1=>?_) (fun c1=>?_)
  ·have c1:=of_decide_eq_true c1
   have e1:i64.wrap (a - 1)=a - 1:=wi _ (by omega)
   refine Z6.ep k3 (fun v ⟨hv,hs⟩=>Z4.ep hv (fun u ⟨hu,_,_⟩=>bW (Z7.aj trivial) (Z17.ep ⟨⟨ms,rfl,⟨by omega,h7⟩,h8⟩,_,rfl,le_trans hs (by decide),zero_le _,fun _ h=>(nomatch h)⟩ (fun w ⟨m2,e2,⟨hl,hs2⟩,ha⟩=>hJ _ ⟨?_,?_,hu,rfl,m2,e2,?_,hs2,ha⟩ ?_))))
   ·show 0<=i64.wrap (a - 1);omega
   ·show i64.wrap (a - 1)<=7;omega
   ·rw [List.length_map] at hl;rw [e1];omega
   ·show (i64.wrap (a - 1)).toNat<a.toNat;omega
  ·exact wp_ret ⟨k3,ms,rfl,⟨show ms.length<=8 by omega,h7⟩,h8⟩
 obtain ⟨v,hv,pv⟩:=Z4.mS (x3:=4) hg
 obtain ⟨h1,h2⟩:=pv.2.2 (by decide)
 obtain ⟨n,hn⟩:=key v.2.2.2 v.2.1 v.2.2.1 h1 (by omega) pv.1
 exact ⟨n,bW hv hn⟩
def R:(an×Int×Int)->Option (Hl×Int×Int×an):=RQ (fun n x=>start (iter step n) x.1 x.2.1 x.2.2) (fun x=>post x.1 x.2.1 x.2.2)
def ep {x0:an}{x1 x2:Int}{γ:Type}[RT γ]{k:(Hl×Int×Int×an)->aC}{Q:γ->Prop}(hg:gd x0 x1 x2)(hk:∀y,post x0 x1 x2 y->Wp (k y) Q):Wp (call (R (x0,x1,x2)) k) Q:=fN (wp x0 x1 x2 hg) hk
def acc (ls:List L):an×Int×Int:=((eM ls),(cI 1 ls),(cI 2 ls))
def aK:jX:=CC eI pats res acc R
def af:gL Tryz.prog Ev 272 aK:=VC (live:=live) (mt:=false) mix aA (eS Z7.af Z17.af) .nil (.cons (Z4.bM (nC eI)) (.cons (Z6.bM (nC eI)) .nil)) Tryz.func272 (by kernel_rfl) run_eq
def ic (_:Nat):gy:=kg Ev aK
def bM (n:Nat):dY Tryz.prog Ev n 272 (ic n):=eY af
end Z18
namespace Z19
def F (x0:cV):aC:=(ck (eG (((2:Int)+x0.bz.length)*8)) (ret (([[L.int x0.dh],[L.int x0.bz.length]]++x0.bz):an)))
def md (a0:aN):List Int:=([a0.dh,a0.bz.length]++a0.bz)
def gd (a0:aN):Prop:=(aN.Sm (2^21) a0)
def R:=RR gd md
def aj {a0}(h:gd a0):R (aN.r a0)=some ((md a0).map aQ):=cO h
def aK:=CN [.agg qR] (oL 3) RT.dec R
def bn (a0)(H0:gd a0):F (aN.r a0)=ret ((md a0).map aQ):=by
 unfold F md
 simp only [SS]
 exact aG (have:=(H0).1;lm) fz
def af:bZ 353 aK:=W1 12 F mix aA bn .nil Tryz.func353
def len (a0:aN):(md a0).length=2+a0.bz.length:=by simp [md];omega
end Z19
namespace Z20
def F (x0 x1:Int):aC:=(call (Z11.R (x1,1,1000000000000)) fun v1=>(cond (!v1) (ret (0:Int)) (cond (x1=0) none (cond (x1=0) none (ret ((Int.tmod (i64.wrap ((Int.tmod x0 x1)+x1)) x1)))))))
def md (a0 a1:Int):Int:=(cond (!(Z11.md a1 1 1000000000000)) (0:Int) ((Int.tmod (i64.wrap ((Int.tmod a0 a1)+a1)) a1)))
def gd (a0 a1:Int):Prop:=True
def R:=cL gd md
def aj {a0 a1}(h:gd a0 a1):R (a0,a1)=some (md a0 a1):=cK h
def aK:=CN [pI,pI] oI RT.dec R
def bn (a0)(a1)(hg:gd a0 a1):F a0 a1=ret (md a0 a1):=by
 refine ct (Z11.aj trivial) (bs (fun _=>rfl) (fun c1=>?_))
 have Dc1:=c1
 simp [Z11.md] at Dc1
 refine dZ df (dZ df ?_)
 exact fz
def af:bZ 422 aK:=W2 15 F mix aA bn (cM Z11.af) Tryz.func422
end Z20
namespace Z21
inductive Pt where
 | p0 (a:an) (b c:Int)
def cF:Pt->List V
 | .p0 a b c=>[.sl none 3 a,.int .i64 b,.int .i64 c]
def step (J:Pt->aC):Pt->aC
 | .p0 a b c=>(cond (c<(a.length:Int)) (m2 c (a.length:Int) (call (Z20.R ((gR a (toNat c)),2147483647)) fun v1=>J (.p0 a (Int.tmod (i64.wrap ((i64.wrap ((i64.wrap (b*1000003))+v1))+13)) 2147483647) (i64.wrap (c+1))))) (ret (b:Int)))
def start (J:Pt->aC)(x0:an):aC:=J (.p0 x0 11 0)
def live:Nat->Live:=gx [(3,iR [0,3,4])]
def md (a0:List Int):Int:=(dQ (S:=Int) (β:=Int) (fun y1 s3=>(.inl (Int.tmod (i64.wrap ((i64.wrap ((i64.wrap (s3*1000003))+(Z20.md y1 2147483647)))+13)) 2147483647))) (fun s3=>s3) a0 11)
def gd (a0:List Int):Prop:=(bf (2^43) (fun y:Int=>True) a0)
def R:=RR gd md
def aj {a0}(h:gd a0):R (a0.map aQ)=some (md a0):=cO h
def aK:=CN [pL 3] oI RT.dec R
def bn (a0)(H0:gd a0):∃n,start (iter step n) (a0.map aQ)=ret (md a0):=by
 have Bh2:=bl H0
 refine ex_eq (dV (z:=0)) (dc fz ?_)
 refine bH (pt:=fun (i1:Nat) (s3:Int)=>Pt.p0 (a0.map aQ) s3 (i1:Int)) (fun _ _=>True) (fun J i1 s3 h2 hih2=>?_) (fun s3 hih2=>?_) trivial
 ·simp only [step,SS]
  refine aP.yes dt (aP.yes bu ?_)
  refine aP.yes (bK h2) (cr (Z20.aj trivial) ?_)
  refine aP.inl trivial ?_
  rw [aF h2 Bh2]
 ·simp only [step,SS]
  refine cH dn (⟨0,?_⟩)
  exact fz
def af:bZ 367 aK:=L1 22 (fun _=>3) cF (fun _=>[]) live step start mix aA bn (cM Z20.af) Tryz.func367
end Z21
namespace Z22
def F (x0:cV)(x1:Int):aC:=(call (Z19.R x0) fun v1=>(ck (eG (((2:Int)+v1.length)*8)) (call (Z21.R ([[L.int 239],[L.int x1]]++v1)) fun v2=>ret v2)))
def md (a0:aN)(a1:Int):Int:=((Z21.md ([239,a1]++(Z19.md a0))))
def gd (a0:aN)(a1:Int):Prop:=(aN.Sm (2^21) a0)
def R:=cL gd md
def aj {a0 a1}(h:gd a0 a1):R ((aN.r a0),a1)=some (md a0 a1):=cK h
def aK:=CN [.agg qR,pI] oI RT.dec R
def bn (a0)(a1)(H0:gd a0 a1):F (aN.r a0) a1=ret (md a0 a1):=by
 refine ct (Z19.aj H0) (aG (have:=Z19.len a0;have:=(H0).1;lm) ?_)
 exact cG _ (rq (Z21.aj (a0:=([239,a1]++(Z19.md a0))) ⟨(have:=Z19.len a0;have:=(H0).1;om),fun _ _=>trivial⟩)) fz
def af:bZ 299 aK:=W2 11 F mix aA bn (eS Z19.af Z21.af) Tryz.func299
end Z22
namespace Z23
inductive Pt where
 | p0 (a:an) (b:Int) (c:an)
def cF:Pt->List V
 | .p0 a b c=>[.sl none 5 a,.own 0,.int .i64 b]
def dN:Pt->List aL
 | .p0 a b c=>[.row 3 c]
def step (J:Pt->aC):Pt->aC
 | .p0 a b c=>(cond (b<(a.length:Int)) (m2 b (a.length:Int) (ck (eG (((c.length:Int)+1)*8)) (J (.p0 a (i64.wrap (b+1)) (c++[[L.int (i64.wrap (gR a (toNat b)))]]))))) (ret (c:an)))
def start (J:Pt->aC)(x0:an):aC:=J (.p0 x0 0 [[L.int x0.length]])
def live:Nat->Live:=gx [(3,iR [0,3,4])]
def md (a0:List Int):List Int:=([(a0.length:Int)]++a0.map (fun y1=>(i64.wrap y1)))
def gd (a0:List Int):Prop:=(bf (2^38) (fun y:Int=>True) a0)
def R:=RR gd md
def aj {a0}(h:gd a0):R (a0.map aQ)=some ((md a0).map aQ):=cO h
def aK:=CN [pL 5] (oL 3) RT.dec R
def bn (a0)(H0:gd a0):∃n,start (iter step n) (a0.map aQ)=ret ((md a0).map aQ):=by
 have Bh2:=bl H0
 refine ex_eq (out:=(fun b:List Int=>ret ((b.map aQ):an))) (nL (g:=fun (y1:Int)=>(i64.wrap y1)) (z:=0) (t:=fun (s3:List Int)=>s3)) (dc (p:=Pt.p0 (a0.map aQ) 0 ([(a0.length:Int)].map aQ)) fz ?_)
 refine bH (pt:=fun (i1:Nat) (s3:List Int)=>Pt.p0 (a0.map aQ) (i1:Int) (s3.map aQ)) (out:=(fun b:List Int=>ret ((b.map aQ):an))) (fun (i1:Nat) (s3:List Int)=>s3.length<=[(a0.length:Int)].length+1*i1) (fun J i1 s3 h2 hih2=>?_) (fun s3 hih2=>?_) (by simp)
 ·simp only [step,SS]
  have gr_:=hih2
  simp only [LN] at gr_
  have:=(H0).1
  refine aP.yes dt (aP.yes bu ?_)
  refine aP.yes (bK h2) (aP.yes lm ?_)
  refine aP.inl (by
    (simp;omega)) ?_
  rw [aF h2 Bh2]
  exact fz
 ·simp only [step,SS]
  refine cH dn (⟨0,?_⟩)
  exact fz
def af:bZ 463 aK:=L1 23 (fun _=>3) cF dN live step start mix aA bn .nil Tryz.func463
def len (a0:List Int):(md a0).length=1+a0.length:=by simp [md];omega
end Z23
namespace Z24
def F (x0:az):aC:=(ck ((x0.size:Int)<=140737488355328) (call (Z23.R (iY x0)) fun v1=>ret (v1:an)))
def md (a0:az):List Int:=(Z23.md (kQ a0))
def gd (a0:az):Prop:=(a0.size<=(2^21))
def R:=RR gd md
def aj {a0}(h:gd a0):R a0=some ((md a0).map aQ):=cO h
def aK:=CN [pS] (oL 3) RT.dec R
def bn (a0)(hg:gd a0):F a0=ret ((md a0).map aQ):=by
 unfold gd at hg
 have H0:=hg
 refine aG (have:=H0;dt) (cG _ (rq (Z23.aj (a0:=(kQ a0)) ⟨(have:=ir a0;have:=H0;om),fun _ _=>trivial⟩)) ?_)
 exact fz
def af:bZ 431 aK:=W1 6 F mix aA bn (cM Z23.af) Tryz.func431
def len (a0:az):(md a0).length=1+a0.size:=by simp [md,Z23.len,ir]
end Z24
namespace Z25
inductive Pt where
 | p0 (a:Int) (b:bp) (c:an)
def cF:Pt->List V
 | .p0 a b c=>[.bN 0 0,.own 1,.int .i64 a]
def dN:Pt->List aL
 | .p0 a b c=>[.box [.str b.aZ,.int .i64 b.bE,.int .i64 b.bY,.sl none 9 b.bD],.row 3 c]
def step (J:Pt->aC):Pt->aC
 | .p0 a b c=>(cond (a<(b.bD.length:Int)) (m2 a (b.bD.length:Int) (call (Z24.R (rV b.bD (toNat a))) fun v1=>(ck (eG (((c.length:Int)+(v1.length:Int))*8)) (J (.p0 (i64.wrap (a+1)) b (c++v1)))))) (ret (c:an)))
def start (J:Pt->aC)(x0:bp):aC:=(call (Z24.R x0.aZ) fun v1=>(ck (eG ((v1.length+3)*8)) (J (.p0 0 x0 (v1++[[L.int x0.bE],[L.int x0.bY],[L.int x0.bD.length]])))))
def live:Nat->Live:=gx [(3,iR [1,3,4])]
def md (a0:ah):List Int:=(((Z24.md a0.aZ)++[a0.bE,a0.bY,a0.bD.length])++a0.bD.flatMap (fun y1=>(Z24.md y1)))
def gd (a0:ah):Prop:=(ah.Sm (2^21) a0)
def R:=RR gd md
def aj {a0}(h:gd a0):R (ah.r a0)=some ((md a0).map aQ):=cO h
def aK:=CN [.agg vY] (oL 3) RT.dec R
def bn (a0)(H0:gd a0):∃n,start (iter step n) (ah.r a0)=ret ((md a0).map aQ):=by
 refine cx (Z24.aj H0.1) ?_
 simp only [SS]
 refine dJ (have:=Z24.len a0.aZ;have:=H0.1;lm) ?_
 have Bh2:=bl H0.2
 refine ex_eq (out:=(fun b:List Int=>ret ((b.map aQ):an))) (sV (g:=fun (y1:az)=>(Z24.md y1)) (z:=⟨#[]⟩) (t:=fun (s3:List Int)=>s3)) (dc (p:=Pt.p0 0 (ah.r a0) (((Z24.md a0.aZ)++[a0.bE,a0.bY,(a0.bD.length:Int)]).map aQ)) fz ?_)
 refine bH (pt:=fun (i1:Nat) (s3:List Int)=>Pt.p0 (i1:Int) (ah.r a0) (s3.map aQ)) (out:=(fun b:List Int=>ret ((b.map aQ):an))) (fun (i1:Nat) (s3:List Int)=>s3.length<=4+a0.aZ.size+i1*(2^21+1)) (fun J i1 s3 h2 hih2=>?_) (fun s3 hih2=>?_) (by
   have:=Z24.len a0.aZ
   simp
   try omega)
 ·simp only [step,SS]
  have:=H0.1
  have:=(H0.2).1
  refine aP.yes dt (aP.yes bu ?_)
  refine aP.yes (bK h2) (cr (Z24.aj (bf.getD H0.2 h2)) ?_)
  refine aP.yes (have:=Z24.len (a0.bD.getD i1 ⟨#[]⟩);have:=(bf.getD (z:=⟨#[]⟩) H0.2 h2);lm) ?_
  refine aP.inl (by
    have:=Z24.len (a0.bD.getD i1 ⟨#[]⟩)
    have:=(bf.getD (z:=⟨#[]⟩) H0.2 h2)
    have g_:=hih2
    simp only [LN] at g_ ⊢
    first | omega | (simp;done) | (simp;omega)) ?_
  rw [aF h2 Bh2]
  exact fz
 ·simp only [step,SS]
  refine cH dn (⟨0,?_⟩)
  exact fz
def af:bZ 382 aK:=L1 33 (fun _=>3) cF dN live step start mix aA bn (cM Z24.af) Tryz.func382
def fc {a0:ah}(hg:gd a0):bf (2^43 - 1) (fun y:Int=>True) (md a0):=by
 refine ⟨?_,fun _ _=>trivial⟩
 unfold md
 have h1:=mF (xs:=a0.bD) (g:=fun y=>Z24.md y) (n:=2^21+1) (fun x hx=>by rw [Z24.len];have:=hg.2.2 x hx;omega)
 have h2:=hg.1
 have h3:=hg.2.1
 have h4:=Z24.len a0.aZ
 simp only [List.length_append,List.length_cons,List.length_nil]
 omega
end Z25
namespace Z26
def F (x0:bp):aC:=(call (Z25.R x0) fun v1=>(ck (eG (((1:Int)+v1.length)*8)) (call (Z21.R ([[L.int 227]]++v1)) fun v2=>ret v2)))
def md (a0:ah):Int:=((Z21.md ([227]++(Z25.md a0))))
def gd (a0:ah):Prop:=(ah.Sm (2^21) a0)
def R:=RR gd md
def aj {a0}(h:gd a0):R (ah.r a0)=some (md a0):=cO h
def aK:=CN [.agg vY] oI RT.dec R
def bn (a0)(H0:gd a0):F (ah.r a0)=ret (md a0):=by
 refine ct (Z25.aj H0) (aG (have:=((Z25.fc H0)).1;lm) ?_)
 exact cG _ (rq (Z21.aj (a0:=([227]++(Z25.md a0))) ⟨(have:=((Z25.fc H0)).1;om),fun _ _=>trivial⟩)) fz
def af:bZ 315 aK:=W1 8 F mix aA bn (eS Z25.af Z21.af) Tryz.func315
end Z26
namespace Z27
inductive Pt where
 | p0 (a:an) (b:Int) (c:an)
def cF:Pt->List V
 | .p0 a b c=>[.sl none 62 a,.own 0,.int .i64 b]
def dN:Pt->List aL
 | .p0 a b c=>[.row 3 c]
def step (J:Pt->aC):Pt->aC
 | .p0 a b c=>(cond (b<(a.length:Int)) (m2 b (a.length:Int) (call (Z26.R (bp.at a (toNat b))) fun v1=>(ck (eG (((c.length:Int)+1)*8)) (J (.p0 a (i64.wrap (b+1)) (c++[[L.int v1]])))))) (ret (c:an)))
def start (J:Pt->aC)(x0:an):aC:=J (.p0 x0 0 [])
def live:Nat->Live:=gx [(3,[(0,none),(3,some 3),(4,none)])]
def md (a0:List ah):List Int:=(a0.map (fun y1=>(Z26.md y1)))
def gd (a0:List ah):Prop:=(bf (2^21) (fun y:ah=>ah.Sm (2^21) y) a0)
def R:=RR gd md
def aj {a0}(h:gd a0):R (a0.map ah.row)=some ((md a0).map aQ):=cO h
def aK:=CN [pL 62] (oL 3) RT.dec R
def bn (a0)(H0:gd a0):∃n,start (iter step n) (a0.map ah.row)=ret ((md a0).map aQ):=by
 have Bh2:=bl H0
 refine ex_eq (out:=(fun b:List Int=>ret ((b.map aQ):an))) (oW (g:=fun (y1:ah)=>(Z26.md y1)) (z:=ah.zero) (t:=fun (s3:List Int)=>s3)) (dc fz ?_)
 refine bH (pt:=fun (i1:Nat) (s3:List Int)=>Pt.p0 (a0.map ah.row) (i1:Int) (s3.map aQ)) (s:=([]:List Int)) (out:=(fun b:List Int=>ret ((b.map aQ):an))) (fun (i1:Nat) (s3:List Int)=>s3.length<=([]:List Int).length+1*i1) (fun J i1 s3 h2 hih2=>?_) (fun s3 hih2=>?_) (by simp)
 ·simp only [step,SS]
  have gr_:=hih2
  simp only [LN] at gr_
  have:=(H0).1
  refine aP.yes dt (aP.yes bu ?_)
  refine aP.yes (bK h2) (cr (Z26.aj (bf.getD H0 h2)) ?_)
  refine aP.yes lm ?_
  refine aP.inl (by
    (simp;omega)) ?_
  rw [aF h2 Bh2]
  exact fz
 ·simp only [step,SS]
  refine cH dn (⟨0,?_⟩)
  exact fz
def af:bZ 306 aK:=L1 21 (fun _=>3) cF dN live step start mix aA bn (cM Z26.af) Tryz.func306
def len (a0:List ah):(md a0).length=a0.length:=by simp [md]
end Z27
namespace Z28
def F (x0 x1:Int):aC:=(call (Z21.R [[L.int 229],[L.int x0],[L.int x1]]) fun v1=>ret v1)
def md (a0 a1:Int):Int:=((Z21.md [229,a0,a1]))
def gd (a0 a1:Int):Prop:=True
def R:=cL gd md
def aj {a0 a1}(h:gd a0 a1):R (a0,a1)=some (md a0 a1):=cK h
def aK:=CN [pI,pI] oI RT.dec R
def bn (a0)(a1)(hg:gd a0 a1):F a0 a1=ret (md a0 a1):=cG _ (rq (Z21.aj (a0:=[229,a0,a1]) ⟨(om),fun _ _=>trivial⟩)) fz
def af:bZ 381 aK:=W2 9 F mix aA bn (cM Z21.af) Tryz.func381
end Z28
namespace Z29
inductive Pt where
 | p0 (a:an) (b:Int) (c:an)
def cF:Pt->List V
 | .p0 a b c=>[.sl none 3 a,.own 0,.int .i64 b]
def dN:Pt->List aL
 | .p0 a b c=>[.row 3 c]
def step (J:Pt->aC):Pt->aC
 | .p0 a b c=>(cond (b<(a.length:Int)) (cond ((i64.wrap (b+1))<(a.length:Int)) (m2 b (a.length:Int) (ck ((0:Int)<=(i64.wrap (b+1))) (ck ((i64.wrap (b+1))<(a.length:Int)) (call (Z28.R ((gR a (toNat b)),(gR a (toNat (i64.wrap (b+1)))))) fun v1=>(ck (eG (((c.length:Int)+1)*8)) (J (.p0 a (i64.wrap (b+2)) (c++[[L.int v1]])))))))) (m2 b (a.length:Int) (ck (eG (((c.length:Int)+1)*8)) (J (.p0 a (i64.wrap (b+2)) (c++[[L.int (gR a (toNat b))]])))))) (ret (c:an)))
def start (J:Pt->aC)(x0:an):aC:=J (.p0 x0 0 [])
def live:Nat->Live:=gx [(3,[(0,none),(3,some 3),(4,none)])]
def up:List Int->List Int
 | []=>[]
 | [a]=>[a]
 | a::b::r=>Z28.md a b::up r
def lB:∀l:List Int,(up l).length=(l.length+1) / 2
 | []=>by simp [up]
 | [_]=>by simp [up]
 | _::_::r=>by
  have:=lB r
  simp only [up,List.length_cons]
  omega
def md (a0:List Int):List Int:=up a0
def gd (a0:List Int):Prop:=bf (2^38) (fun y:Int=>True) a0
def R:=RR gd md
def aj {a0}(h:gd a0):R (a0.map aQ)=some ((md a0).map aQ):=cO h
def aK:=CN [pL 3] (oL 3) RT.dec R
def bn (a0)(hg:gd a0):∃n,start (iter step n) (a0.map aQ)=ret ((md a0).map aQ):=by
 obtain ⟨H1,_⟩:=hg
 have key:∀(k i:Nat) (c:List Int),i+k=a0.length->c.length<=i->∃n,iter step n (Pt.p0 (a0.map aQ) (i:Int) (c.map aQ))=ret ((c++up (a0.drop i)).map aQ:an):=by
  intro k
  induction k using Nat.strongRecOn with
  | _ k ih=>
  intro i c hi hc
  match k,hi,ih with
  | 0,hi,_=>
   refine ⟨1,?_⟩
   show step (iter step 0) (Pt.p0 _ _ _)=_
   simp only [step,List.length_map]
   refine dZ (decide_eq_false (by omega)) ?_
   rw [List.drop_eq_nil_of_le (by omega)]
   simp only [up,List.append_nil]
  | 1,hi,ih=>
   obtain ⟨n,hn⟩:=ih 0 (by omega) (i+1) (c++[a0.getD i 0]) (by omega) (by simp;omega)
   have h2:∃n,iter step n (Pt.p0 (a0.map aQ) (i64.wrap ((i:Int)+2)) ((c++[a0.getD i 0]).map aQ))=ret ((c++[a0.getD i 0]).map aQ:an):=by
    refine ⟨1,?_⟩
    show step (iter step 0) (Pt.p0 _ _ _)=_
    simp only [step,List.length_map]
    refine dZ (decide_eq_false ?_) rfl
    rw [Go.IntWalk.i64_in _ (by omega)];omega
   obtain ⟨n,hn⟩:=h2
   refine ⟨n+1,?_⟩
   show step (iter step n) (Pt.p0 _ _ _)=_
   simp only [step,List.length_map,gm,ig]
   refine aG (decide_eq_true (by omega)) (dZ (decide_eq_false ?_) (aG (decide_eq_true (by omega)) (aG (decide_eq_true (by omega)) (aG (fQ (by omega)) ?_))))
   ·rw [Go.IntWalk.i64_in _ (by omega)];omega
   ·rw [List.map_append] at hn
    refine Eq.trans hn ?_
    rw [List.drop_eq_getElem_cons (by omega),List.drop_eq_nil_of_le (by omega),eD (by omega:i<a0.length)]
    simp only [up,List.map_append]
  | k+2,hi,ih=>
   obtain ⟨n,hn⟩:=ih k (by omega) (i+2) (c++[Z28.md (a0.getD i 0) (a0.getD (i+1) 0)]) (by omega) (by simp;omega)
   refine ⟨n+1,?_⟩
   show step (iter step n) (Pt.p0 _ _ _)=_
   have w1:i64.wrap ((i:Int)+1)=((i+1:Nat):Int):=by rw [Go.IntWalk.i64_in _ (by omega)];omega
   have w2:i64.wrap ((i:Int)+2)=((i+2:Nat):Int):=by rw [Go.IntWalk.i64_in _ (by omega)];omega
   simp only [step,List.length_map,w1,w2,gm,ig]
   refine aG (decide_eq_true (by omega)) (aG (decide_eq_true (by omega)) (aG (decide_eq_true (by omega)) (aG (decide_eq_true (by omega)) (aG (decide_eq_true (by omega)) (aG (decide_eq_true (by omega)) ?_)))))
   refine cG _ (Z28.aj trivial) (aG (fQ (by omega)) ?_)
   rw [List.map_append] at hn
   refine Eq.trans hn ?_
   rw [List.drop_eq_getElem_cons (by omega:i<a0.length),List.drop_eq_getElem_cons (by omega:i+1<a0.length),eD (by omega:i<a0.length),eD (by omega:i+1<a0.length)]
   simp only [up,List.append_assoc,List.cons_append,List.nil_append]
 have:=key a0.length 0 [] (by omega) (by simp)
 unfold start md
 simpa using this
def af:bZ 374 aK:=L1 38 (fun _=>3) cF dN live step start mix aA bn (cM Z28.af) Tryz.func374
end Z29
namespace Z30
inductive Pt where
 | p0 (a:an)
 | p1 (a:an)
def cF:Pt->List V
 | .p0 a=>[.sl none 3 a]
 | .p1 a=>[.own 0]
def dN:Pt->List aL
 | .p0 a=>[]
 | .p1 a=>[.row 3 a]
def step (J:Pt->aC):Pt->aC
 | .p0 a=>(cond ((a.length:Int)>1) (call (Z29.R a) fun v1=>J (.p1 v1)) (ck ((0:Int)<(a.length:Int)) (ret ((gR a 0):Int))))
 | .p1 a=>(cond ((a.length:Int)>1) (call (Z29.R a) fun v1=>J (.p1 v1)) (ck ((0:Int)<(a.length:Int)) (ret ((gR a 0):Int))))
def start (J:Pt->aC)(x0:an):aC:=(cond ((x0.length:Int)==0) (call (Z21.R [[L.int 229]]) fun v1=>ret v1) (J (.p0 x0)))
def live:Nat->Live:=gx [(4,[(3,none)])]
def top:Nat->List Int->Int
 | 0,l=>l.getD 0 0
 | k+1,l=>if l.length>1 then top k (Z29.up l) else l.getD 0 0
def md (a0:List Int):Int:=(if a0.length=0 then Z21.md [229] else top a0.length a0)
def gd (a0:List Int):Prop:=bf (2^38) (fun y:Int=>True) a0
def R:=RR gd md
def aj {a0}(h:gd a0):R (a0.map aQ)=some (md a0):=cO h
def aK:=CN [pL 3] oI RT.dec R
def bn (a0)(hg:gd a0):∃n,start (iter step n) (a0.map aQ)=ret (md a0):=by
 have one:∀(l:List Int) (r:Int) (n:Nat),bf (2^38) (fun y:Int=>True) l->0<l.length->(if l.length>1 then iter step n (Pt.p1 ((Z29.up l).map aQ))=ret r else ret (l.getD 0 0:Int)=ret r)->step (iter step n) (Pt.p0 (l.map aQ))=ret r/\step (iter step n) (Pt.p1 (l.map aQ))=ret r:=by
  intro l r n hl hp h
  simp only [step,List.length_map,ig]
  by_cases h1:l.length>1
  ·rw [if_pos h1] at h
   have hx:∀y:aC,(cond ((l.length:Int)>1) (call (Z29.R (l.map aQ)) (fun v1=>iter step n (Pt.p1 v1))) y)=ret r:=fun y=>
    aG (decide_eq_true (by omega)) (cG _ (Z29.aj hl) h)
   exact ⟨hx _,hx _⟩
  ·rw [if_neg h1] at h
   have hx:∀y:aC,(cond ((l.length:Int)>1) y (cond ((0:Int)<(l.length:Int)) (ret (l.getD 0 0:Int)) none))=ret r:=fun y=>
    dZ (decide_eq_false (by omega)) (aG (decide_eq_true (by omega)) h)
   exact ⟨hx _,hx _⟩
 have key:∀(k:Nat) (l:List Int),bf (2^38) (fun y:Int=>True) l->0<l.length->l.length<=k+1->∃n,step (iter step n) (Pt.p0 (l.map aQ))=ret (top k l)/\step (iter step n) (Pt.p1 (l.map aQ))=ret (top k l):=by
  intro k
  induction k with
  | zero=>
   intro l hl hp hk
   exact ⟨0,one l _ 0 hl hp (by rw [if_neg (by omega)];rfl)⟩
  | succ k ih=>
   intro l hl hp hk
   by_cases h1:l.length>1
   ·have hu:=Z29.lB l
    have hl1:=hl.1
    obtain ⟨n,_,hn⟩:=ih (Z29.up l) ⟨by omega,fun _ _=>trivial⟩ (by omega) (by omega)
    refine ⟨n+1,one l _ (n+1) hl hp ?_⟩
    rw [if_pos h1]
    refine Eq.trans hn ?_
    unfold top
    rw [if_pos h1]
    cases k<;>rfl
   ·refine ⟨0,one l _ 0 hl hp ?_⟩
    rw [if_neg h1]
    unfold top
    rw [if_neg h1]
 unfold md
 unfold start
 simp only [List.length_map]
 by_cases h0:a0.length=0
 ·have e:((a0.length:Int)==0)=true:=by simpa using List.length_eq_zero_iff.1 h0
  refine ⟨0,?_⟩
  rw [e]
  refine cG _ (Z21.aj (a0:=[229]) ⟨by decide,fun _ _=>trivial⟩) ?_
  rw [if_pos h0]
 ·have e:((a0.length:Int)==0)=false:=beq_eq_false_iff_ne.2 (by omega)
  obtain ⟨n,hn,_⟩:=key a0.length a0 hg (by omega) (by omega)
  refine ⟨n+1,?_⟩
  rw [e,if_neg h0]
  exact hn
def af:bZ 384 aK:=L1 18 (fun _=>4) cF dN live step start mix aA bn (eS Z21.af Z29.af) Tryz.func384
end Z30
namespace Z31
def F (x0 x1:Int):aC:=(call (Z21.R [[L.int 231],[L.int x0],[L.int x1]]) fun v1=>ret v1)
def md (a0 a1:Int):Int:=((Z21.md [231,a0,a1]))
def gd (a0 a1:Int):Prop:=True
def R:=cL gd md
def aj {a0 a1}(h:gd a0 a1):R (a0,a1)=some (md a0 a1):=cK h
def aK:=CN [pI,pI] oI RT.dec R
def bn (a0)(a1)(hg:gd a0 a1):F a0 a1=ret (md a0 a1):=cG _ (rq (Z21.aj (a0:=[231,a0,a1]) ⟨(om),fun _ _=>trivial⟩)) fz
def af:bZ 317 aK:=W2 9 F mix aA bn (cM Z21.af) Tryz.func317
end Z31
namespace Z32
def F (x0:an):aC:=(call (Z27.R x0) fun v1=>(call (Z30.R v1) fun v2=>(call (Z31.R (x0.length,v2)) fun v3=>ret v3)))
def md (a0:List ah):Int:=((Z31.md a0.length (Z30.md (Z27.md a0))))
def gd (a0:List ah):Prop:=(bf (2^21) (fun y:ah=>ah.Sm (2^21) y) a0)
def R:=RR gd md
def aj {a0}(h:gd a0):R (a0.map ah.row)=some (md a0):=cO h
def aK:=CN [pL 62] oI RT.dec R
def bn (a0)(H0:gd a0):F (a0.map ah.row)=ret (md a0):=by
 refine ct (Z27.aj H0) ?_
 simp only [SS]
 refine ct (Z30.aj ⟨(have:=Z27.len a0;have:=(H0).1;om),fun _ _=>trivial⟩) (ct (Z31.aj trivial) ?_)
 exact fz
def af:bZ 320 aK:=W1 9 F mix aA bn (jw Z27.af Z30.af Z31.af) Tryz.func320
end Z32
namespace Z33
def F (x0:cV):aC:=(ck (eG (x0.bz.length*8)) (ret x0))
def md (a0:aN):aN:=a0
def gd (a0:aN):Prop:=(aN.Sm (2^21) a0)
def R:=RR gd md
def aj {a0}(h:gd a0):R (aN.r a0)=some (aN.r a0):=cO h
def aK:=CN [.agg qR] (.agg f48) RT.dec R
def bn (a0)(H0:gd a0):F (aN.r a0)=ret (aN.r (md a0)):=by
 unfold F md
 simp only [SS]
 exact aG (have:=(H0).1;lm) fz
def af:bZ 251 aK:=W1 10 F mix aA bn .nil Tryz.func251
end Z33
namespace Z34
inductive Pt where
 | p0 (a:Int) (b:cV)
def cF:Pt->List V
 | .p0 a b=>[.bN 0 0,.int .i64 a]
def dN:Pt->List aL
 | .p0 a b=>[.box [.sl none 3 b.bz,.int .i64 b.dh]]
def step (J:Pt->aC):Pt->aC
 | .p0 a b=>(cond (a<(b.bz.length:Int)) (m2 a (b.bz.length:Int) (call (Z11.R ((gR b.bz (toNat a)),1,99)) fun v1=>(cond (!v1) fq (cond (a>0) (ck ((0:Int)<=(i64.wrap (a - 1))) (ck ((i64.wrap (a - 1))<(b.bz.length:Int)) (m2 a (b.bz.length:Int) (cond ((gR b.bz (toNat (i64.wrap (a - 1))))>=(gR b.bz (toNat a))) fq (J (.p0 (i64.wrap (a+1)) b)))))) (J (.p0 (i64.wrap (a+1)) b)))))) (call (Z11.R ((b.bz.length:Int),1,4)) fun v2=>(cond v2 (call (Z11.R (b.dh,1,(b.bz.length:Int))) fun v3=>ret (v3:Bool)) fq)))
def start (J:Pt->aC)(x0:cV):aC:=J (.p0 0 x0)
def live:Nat->Live:=gx [(2,iR [1,3])]
def md (a0:aN):Bool:=(dD (S:=Unit) (β:=Bool) (fun i1 y1 s3=>(cond (!(Z11.md y1 1 99)) (.inr false) (cond ((i1:Int)>0) (cond ((a0.bz.getD (toNat (i64.wrap (i1 - 1))) 0)>=y1) (.inr false) (.inl ())) (.inl ())))) (fun s3=>(cond (Z11.md a0.bz.length 1 4) ((Z11.md a0.dh 1 a0.bz.length)) false)) 0 a0.bz ())
def gd (a0:aN):Prop:=(aN.Sm (2^21) a0)
def R:=RR gd md
def aj {a0}(h:gd a0):R (aN.r a0)=some (md a0):=cO h
def aK:=CN [.agg qR] oB RT.dec R
def bn (a0)(H0:gd a0):∃n,start (iter step n) (aN.r a0)=ret (md a0):=by
 have Bh2:=bl H0
 refine ex_eq (cC (z:=0)) (dc fz ?_)
 refine bH (pt:=fun (i1:Nat) (s3:Unit)=>Pt.p0 (i1:Int) (aN.r a0)) (fun _ _=>True) (fun J i1 s3 h2 hih2=>?_) (fun s3 hih2=>?_) trivial
 ·simp only [step,SS]
  have:=(H0).1
  refine aP.yes dt (aP.yes bu ?_)
  refine aP.yes (bK h2) (cr (Z11.aj trivial) ?_)
  refine aP.bif (fun _=>aP.inr rfl) (fun c4=>?_)
  refine aP.bif (fun c5=>?_) (fun c5=>?_)
  ·have dc5:=c5
   simp only [DC] at dc5
   refine aP.yes dt (aP.yes dt ?_)
   refine aP.yes bu (aP.yes (bK h2) ?_)
   refine aP.bif (fun _=>aP.inr rfl) (fun c6=>?_)
   refine aP.inl trivial ?_
   rw [aF h2 Bh2]
  ·refine aP.inl trivial ?_
   rw [aF h2 Bh2]
 ·simp only [step,SS]
  refine cH dn (cx (Z11.aj trivial) ?_)
  refine gB ret (fun c7=>?_) (fun _=>⟨0,rfl⟩)
  refine cx (Z11.aj trivial) (⟨0,?_⟩)
  exact fz
def af:bZ 365 aK:=L1 48 (fun _=>2) cF dN live step start mix aA bn (cM Z11.af) Tryz.func365
def tr {a0:aN}(h:md a0=true):1<=a0.bz.length/\a0.bz.length<=4:=by
 refine Classical.byContradiction fun hc=>?_
 have e1:Z11.md (a0.bz.length:Int) 1 4=false:=by simp [Z11.md];omega
 unfold md at h
 rw [e1] at h
 have h3:=kG (c:=false) (f:=fun (i1:Nat) (y1:Int) (s3:Unit)=>(cond (!(Z11.md y1 1 99)) (.inr (false:Bool)) (cond ((i1:Int)>0) (cond ((a0.bz.getD (toNat (i64.wrap ((i1:Int) - 1))) 0)>=y1) (.inr (false:Bool)) (.inl ())) (.inl ())))) (by
  intro i x s b h
  revert h
  simp only [Bool.cond_eq_ite]
  repeat' split
  all_goals (intro h;first | (cases h;rfl) | cases h)) a0.bz 0 ()
 simp only [aU] at h
 rw [h3] at h
 cases h
end Z34
namespace Z35
def F (x0:cV):aC:=(cond (x0.dh==0) (ret (((x0.bz.length:Int)==0))) (ret false))
def md (a0:aN):Bool:=(cond (a0.dh==0) (((a0.bz.length:Int)==0)) false)
def gd (a0:aN):Prop:=True
def R:=RR gd md
def aj {a0}(h:gd a0):R (aN.r a0)=some (md a0):=cO h
def aK:=CN [.agg qR] oB RT.dec R
def bn (a0)(hg:gd a0):F (aN.r a0)=ret (md a0):=by
 refine bs (fun c1=>?_) (fun _=>rfl)
 exact fz
def af:bZ 366 aK:=W1 12 F mix aA bn .nil Tryz.func366
end Z35
namespace Z36
def F (x0:bL):aC:=(call (Z11.R (x0.aS,0,2147483646)) fun v1=>(cond (!v1) (ret false) (call (Z11.R (x0.dx,0,2147483646)) fun v2=>(cond (!v2) (ret false) (call (Z11.R (x0.dX,0,2147483646)) fun v3=>(cond (!v3) (ret false) (call (Z11.R (x0.cy,0,200)) fun v4=>(cond (!v4) (ret false) (call (Z11.R (x0.bE,1,3)) fun v5=>(cond (!v5) (ret false) (call (Z11.R (x0.cg,0,100000)) fun v6=>(cond (!v6) (ret false) (call (Z11.R (x0.cq,x0.cg,100000)) fun v7=>(cond (!v7) (ret false) (cond ((i64.wrap (x0.cq - x0.cg))>200) (ret false) (call (Z11.R (x0.cj,0,12)) fun v8=>(cond (!v8) (ret false) (call (Z34.R x0.bU) fun v9=>(cond (!v9) (ret false) (call (Z35.R x0.bF) fun v10=>(cond v10 (cond (x0.cT != 0) (ret false) (call (Z34.R x0.bB) fun v11=>(cond v11 (ret true) (call (Z35.R x0.bB) fun v12=>(cond v12 (ret ((!x0.bk))) (ret false)))))) (call (Z34.R x0.bF) fun v13=>(cond (!v13) (ret false) (call (Z11.R (x0.cT,1,500)) fun v14=>(cond (!v14) (ret false) (call (Z34.R x0.bB) fun v15=>(cond v15 (ret true) (call (Z35.R x0.bB) fun v16=>(cond v16 (ret ((!x0.bk))) (ret false))))))))))))))))))))))))))))))
def md (a0:au):Bool:=(cond (!(Z11.md a0.aS 0 2147483646)) false (cond (!(Z11.md a0.dx 0 2147483646)) false (cond (!(Z11.md a0.dX 0 2147483646)) false (cond (!(Z11.md a0.cy 0 200)) false (cond (!(Z11.md a0.bE 1 3)) false (cond (!(Z11.md a0.cg 0 100000)) false (cond (!(Z11.md a0.cq a0.cg 100000)) false (cond ((i64.wrap (a0.cq - a0.cg))>200) false (cond (!(Z11.md a0.cj 0 12)) false (cond (!(Z34.md a0.bU)) false (cond (Z35.md a0.bF) (cond (a0.cT != 0) false (cond (Z34.md a0.bB) true (cond (Z35.md a0.bB) ((!a0.bk)) false))) (cond (!(Z34.md a0.bF)) false (cond (!(Z11.md a0.cT 1 500)) false (cond (Z34.md a0.bB) true (cond (Z35.md a0.bB) ((!a0.bk)) false)))))))))))))))
def gd (a0:au):Prop:=(au.Sm (2^21) a0)
def R:=RR gd md
def aj {a0}(h:gd a0):R (au.r a0)=some (md a0):=cO h
def aK:=CN [.agg lC] oB RT.dec R
def bn (a0)(H0:gd a0):F (au.r a0)=ret (md a0):=by
 refine ct (Z11.aj trivial) (bs (fun _=>rfl) (fun c1=>?_))
 refine ct (Z11.aj trivial) (bs (fun _=>rfl) (fun c2=>?_))
 refine ct (Z11.aj trivial) (bs (fun _=>rfl) (fun c3=>?_))
 refine ct (Z11.aj trivial) (bs (fun _=>rfl) (fun c4=>?_))
 refine ct (Z11.aj trivial) (bs (fun _=>rfl) (fun c5=>?_))
 refine ct (Z11.aj trivial) (bs (fun _=>rfl) (fun c6=>?_))
 refine ct (Z11.aj trivial) (bs (fun _=>rfl) (fun c7=>?_))
 refine bs (fun _=>rfl) (fun c8=>?_)
 refine ct (Z11.aj trivial) (bs (fun _=>rfl) (fun c9=>?_))
 refine ct (Z34.aj H0.1) (bs (fun _=>rfl) (fun c10=>?_))
 refine ct (Z35.aj trivial) (bs (fun c11=>?_) (fun c11=>?_))
 ·refine bs (fun _=>rfl) (fun c12=>?_)
  refine ct (Z34.aj H0.2.2) (bs (fun _=>rfl) (fun c13=>?_))
  refine ct (Z35.aj trivial) (bs (fun c14=>?_) (fun _=>rfl))
  exact fz
 ·refine ct (Z34.aj H0.2.1) (bs (fun _=>rfl) (fun c15=>?_))
  refine ct (Z11.aj trivial) (bs (fun _=>rfl) (fun c16=>?_))
  refine ct (Z34.aj H0.2.2) (bs (fun _=>rfl) (fun c17=>?_))
  refine ct (Z35.aj trivial) (bs (fun c18=>?_) (fun _=>rfl))
  exact fz
def af:bZ 298 aK:=W1 92 F mix aA bn (jw Z11.af Z34.af Z35.af) Tryz.func298
def tr {a0:au}(h:md a0=true):(1<=a0.bE/\a0.bE<=3)/\0<=a0.cg/\a0.cg<=a0.cq/\a0.cq<=100000/\0<=a0.cj/\a0.cj<=12:=by
 have key:∀x y z:Int,Z11.md x y z=true->y<=x/\x<=z:=fun x y z h=>by simpa [Z11.md] using h
 unfold md at h
 simp only [D2,Bool.not_not,Bool.and_eq_true] at h
 obtain ⟨_,_,_,_,h5,h6,h7,_,h8,_⟩:=h
 have:=key _ _ _ h5
 have:=key _ _ _ h6
 have:=key _ _ _ h7
 have:=key _ _ _ h8
 omega
end Z36
namespace Z37
def F (x0:cV)(x1:Int)(x2:an)(x3 x4:Int):aC:=(call (Z15.R x2) fun v1=>(cond (!v1) (ret (((⟨0,0,0,0,0,0,0,0,(⟨[],0⟩),(⟨[],0⟩),0,(⟨[],0⟩),false⟩),false):bL×Bool)) (call (Z11.R (x3,0,100000)) fun v2=>(cond (!v2) (ret (((⟨0,0,0,0,0,0,0,0,(⟨[],0⟩),(⟨[],0⟩),0,(⟨[],0⟩),false⟩),false):bL×Bool)) (call (Z11.R (x4,0,200)) fun v3=>(cond (!v3) (ret (((⟨0,0,0,0,0,0,0,0,(⟨[],0⟩),(⟨[],0⟩),0,(⟨[],0⟩),false⟩),false):bL×Bool)) (call (Z22.R (x0,x1)) fun v4=>(call (Z32.R x2) fun v5=>(call (Z33.R x0) fun v6=>(call (Z36.R (⟨v4,0,1,x3,(i64.wrap (x3+x4)),x2.length,v5,x1,v6,(⟨[],0⟩),0,(⟨[],0⟩),false⟩)) fun v7=>(cond (!v7) (ret (((⟨0,0,0,0,0,0,0,0,(⟨[],0⟩),(⟨[],0⟩),0,(⟨[],0⟩),false⟩),false):bL×Bool)) (ret (((⟨v4,0,1,x3,(i64.wrap (x3+x4)),x2.length,v5,x1,v6,(⟨[],0⟩),0,(⟨[],0⟩),false⟩),true):bL×Bool)))))))))))))
def md (a0:aN)(a1:Int)(a2:List ah)(a3 a4:Int):au×Bool:=(cond (!(Z15.md a2)) ((⟨0,0,0,0,0,0,0,0,(⟨[],0⟩),(⟨[],0⟩),0,(⟨[],0⟩),false⟩),false) (cond (!(Z11.md a3 0 100000)) ((⟨0,0,0,0,0,0,0,0,(⟨[],0⟩),(⟨[],0⟩),0,(⟨[],0⟩),false⟩),false) (cond (!(Z11.md a4 0 200)) ((⟨0,0,0,0,0,0,0,0,(⟨[],0⟩),(⟨[],0⟩),0,(⟨[],0⟩),false⟩),false) (cond (!(Z36.md (⟨(Z22.md a0 a1),0,1,a3,(i64.wrap (a3+a4)),a2.length,(Z32.md a2),a1,a0,(⟨[],0⟩),0,(⟨[],0⟩),false⟩))) ((⟨0,0,0,0,0,0,0,0,(⟨[],0⟩),(⟨[],0⟩),0,(⟨[],0⟩),false⟩),false) ((⟨(Z22.md a0 a1),0,1,a3,(i64.wrap (a3+a4)),a2.length,(Z32.md a2),a1,a0,(⟨[],0⟩),0,(⟨[],0⟩),false⟩),true)))))
def gd (a0:aN)(a1:Int)(a2:List ah)(a3 a4:Int):Prop:=(aN.Sm (2^21) a0)/\(bf (2^21) (fun y:ah=>ah.Sm (2^21) y) a2)
def R:=qL gd md
def aj {a0 a1 a2 a3 a4}(h:gd a0 a1 a2 a3 a4):R ((aN.r a0),a1,(a2.map ah.row),a3,a4)=some ((au.r (md a0 a1 a2 a3 a4).1),(md a0 a1 a2 a3 a4).2):=qA h
def aK:=CN [.agg qR,pI,pL 62,pI,pI] (.gS [(true,f50),(false,[fB])]) RT.dec R
def bn (a0)(a1)(a2)(a3)(a4)(hg:gd a0 a1 a2 a3 a4):F (aN.r a0) a1 (a2.map ah.row) a3 a4=ret ((au.r (md a0 a1 a2 a3 a4).1),(md a0 a1 a2 a3 a4).2):=by
 obtain ⟨H0,H2⟩:=hg
 refine ct (Z15.aj H2) (bP (fun b:au×Bool=>ret (((au.r b.1),b.2):bL×Bool)) (fun c1=>fz) (fun c1=>?_))
 refine ct (Z11.aj trivial) (bP (fun b:au×Bool=>ret (((au.r b.1),b.2):bL×Bool)) (fun c2=>fz) (fun c2=>?_))
 refine ct (Z11.aj trivial) (bP (fun b:au×Bool=>ret (((au.r b.1),b.2):bL×Bool)) (fun c3=>fz) (fun c3=>?_))
 refine ct (Z22.aj H0) (ct (Z32.aj H2) ?_)
 refine ct (Z33.aj H0) ?_
 simp only [SS]
 have h1:au.Sm (2^21) ((⟨(Z22.md a0 a1),0,1,a3,(i64.wrap (a3+a4)),(a2.length:Int),(Z32.md a2),a1,a0,(⟨[],0⟩:aN),0,(⟨[],0⟩:aN),false⟩:au)):=⟨H0,bf.nil,bf.nil⟩
 have h2:=Z36.aj h1
 simp only [au.r] at h2
 refine ct h2 (bP (fun b:au×Bool=>ret (((au.r b.1),b.2):bL×Bool)) (fun c4=>fz) (fun c4=>?_))
 simp only [au.r];rfl
def af:bZ 325 aK:=W5 47 F mix aA bn (vp Z15.af Z11.af Z22.af Z32.af Z33.af Z36.af) Tryz.func325
def fc {a0:aN}{a1:Int}{a2:List ah}{a3 a4:Int}(hg:gd a0 a1 a2 a3 a4):au.Sm (2^21) ((md a0 a1 a2 a3 a4).1):=by
 unfold md
 simp only [Bool.cond_eq_ite]
 repeat' split
 all_goals first | exact ⟨bf.nil,bf.nil,bf.nil⟩ | exact ⟨hg.1,bf.nil,bf.nil⟩
end Z37
namespace Z38
def F (x0:bL):aC:=(call (Z33.R x0.bU) fun v1=>(call (Z33.R x0.bF) fun v2=>(call (Z33.R x0.bB) fun v3=>ret ((⟨x0.aS,x0.cy,x0.bE,x0.cg,x0.cq,x0.cj,x0.dx,x0.dX,v1,v2,x0.cT,v3,x0.bk⟩):bL))))
def md (a0:au):au:=a0
def gd (a0:au):Prop:=(au.Sm (2^21) a0)
def R:=RR gd md
def aj {a0}(h:gd a0):R (au.r a0)=some (au.r a0):=cO h
def aK:=CN [.agg lC] (.agg f50) RT.dec R
def bn (a0)(H0:gd a0):F (au.r a0)=ret (au.r (md a0)):=by
 refine ct (Z33.aj H0.1) (ct (Z33.aj H0.2.1) ?_)
 exact ct (Z33.aj H0.2.2) fz
def af:bZ 157 aK:=W1 18 F mix aA bn (cM Z33.af) Tryz.func157
end Z38
namespace Z39
def F (x0:bL):aC:=(call (Z19.R x0.bU) fun v1=>(ck (eG (((8:Int)+v1.length)*8)) (call (Z19.R x0.bF) fun v2=>(ck (eG (((([[L.int x0.aS],[L.int x0.cy],[L.int x0.bE],[L.int x0.cg],[L.int x0.cq],[L.int x0.cj],[L.int x0.dx],[L.int x0.dX]]++v1).length)+v2.length)*8)) (ck (eG ((((([[L.int x0.aS],[L.int x0.cy],[L.int x0.bE],[L.int x0.cg],[L.int x0.cq],[L.int x0.cj],[L.int x0.dx],[L.int x0.dX]]++v1)++v2).length)+1)*8)) (call (Z19.R x0.bB) fun v3=>(ck (eG (((((([[L.int x0.aS],[L.int x0.cy],[L.int x0.bE],[L.int x0.cg],[L.int x0.cq],[L.int x0.cj],[L.int x0.dx],[L.int x0.dX]]++v1)++v2)++[[L.int x0.cT]]).length)+v3.length)*8)) (cond x0.bk (ck (eG ((((((([[L.int x0.aS],[L.int x0.cy],[L.int x0.bE],[L.int x0.cg],[L.int x0.cq],[L.int x0.cj],[L.int x0.dx],[L.int x0.dX]]++v1)++v2)++[[L.int x0.cT]])++v3).length)+1)*8)) (ret (((((([[L.int x0.aS],[L.int x0.cy],[L.int x0.bE],[L.int x0.cg],[L.int x0.cq],[L.int x0.cj],[L.int x0.dx],[L.int x0.dX]]++v1)++v2)++[[L.int x0.cT]])++v3)++[[L.int 1]]):an))) (ck (eG ((((((([[L.int x0.aS],[L.int x0.cy],[L.int x0.bE],[L.int x0.cg],[L.int x0.cq],[L.int x0.cj],[L.int x0.dx],[L.int x0.dX]]++v1)++v2)++[[L.int x0.cT]])++v3).length)+1)*8)) (ret (((((([[L.int x0.aS],[L.int x0.cy],[L.int x0.bE],[L.int x0.cg],[L.int x0.cq],[L.int x0.cj],[L.int x0.dx],[L.int x0.dX]]++v1)++v2)++[[L.int x0.cT]])++v3)++[[L.int 0]]):an)))))))))))
def md (a0:au):List Int:=(cond a0.bk ((((([a0.aS,a0.cy,a0.bE,a0.cg,a0.cq,a0.cj,a0.dx,a0.dX]++(Z19.md a0.bU))++(Z19.md a0.bF))++[a0.cT])++(Z19.md a0.bB))++[1]) ((((([a0.aS,a0.cy,a0.bE,a0.cg,a0.cq,a0.cj,a0.dx,a0.dX]++(Z19.md a0.bU))++(Z19.md a0.bF))++[a0.cT])++(Z19.md a0.bB))++[0]))
def gd (a0:au):Prop:=(au.Sm (2^21) a0)
def R:=RR gd md
def aj {a0}(h:gd a0):R (au.r a0)=some ((md a0).map aQ):=cO h
def aK:=CN [.agg lC] (oL 3) RT.dec R
def bn (a0)(H0:gd a0):F (au.r a0)=ret ((md a0).map aQ):=by
 refine ct (Z19.aj H0.1) (aG (have:=Z19.len a0.bU;have:=(H0.1).1;lm) ?_)
 refine ct (Z19.aj H0.2.1) (aG (have:=Z19.len a0.bU;have:=(H0.1).1;have:=Z19.len a0.bF;have:=(H0.2.1).1;lm) ?_)
 refine aG (have:=Z19.len a0.bU;have:=(H0.1).1;have:=Z19.len a0.bF;have:=(H0.2.1).1;lm) (ct (Z19.aj H0.2.2) ?_)
 exact aG (have:=Z19.len a0.bU;have:=(H0.1).1;have:=Z19.len a0.bF;have:=(H0.2.1).1;have:=Z19.len a0.bB;have:=(H0.2.2).1;lm) (bP (fun b:List Int=>ret ((b.map aQ):an)) (fun c1=>aG (have:=Z19.len a0.bU;have:=(H0.1).1;have:=Z19.len a0.bF;have:=(H0.2.1).1;have:=Z19.len a0.bB;have:=(H0.2.2).1;lm) fz) (fun c1=>aG (have:=Z19.len a0.bU;have:=(H0.1).1;have:=Z19.len a0.bF;have:=(H0.2.1).1;have:=Z19.len a0.bB;have:=(H0.2.2).1;lm) fz))
def af:bZ 292 aK:=W1 49 F mix aA bn (cM Z19.af) Tryz.func292
def len (a0:au):(md a0).length=16+a0.bU.bz.length+a0.bF.bz.length+a0.bB.bz.length:=by unfold md;cases a0.bk<;>simp [Z19.md]<;>omega
def DF {k l:aN}{x y:List Int}(h:Z19.md k++x=Z19.md l++y):k=l/\x=y:=by
 obtain ⟨kl,kn⟩:=k
 obtain ⟨ll,ln⟩:=l
 simp only [Z19.md,List.cons_append,List.nil_append,List.cons.injEq] at h
 obtain ⟨h1,h2,h3⟩:=h
 obtain ⟨h4,h5⟩:=List.append_inj h3 (by omega)
 exact ⟨by rw [h1,h4],h5⟩
def vC (a:au):md a=a.aS::a.cy::a.bE::a.cg::a.cq::a.cj::a.dx::a.dX::(Z19.md a.bU++(Z19.md a.bF++(a.cT::(Z19.md a.bB++[bif a.bk then 1 else 0])))):=by
 unfold md
 cases a.bk<;>simp only [aO,aU,List.append_assoc,List.cons_append,List.nil_append]
def inj {a b:au}(h:md a=md b):a=b:=by
 rw [vC,vC] at h
 simp only [List.cons.injEq] at h
 obtain ⟨g1,g2,g3,g4,g5,g6,g7,g8,g9⟩:=h
 obtain ⟨k1,g9⟩:=DF g9
 obtain ⟨k2,g9⟩:=DF g9
 simp only [List.cons.injEq] at g9
 obtain ⟨k3,g9⟩:=g9
 obtain ⟨k4,g9⟩:=DF g9
 have k5:a.bk=b.bk:=by
  simp only [List.cons.injEq,and_true] at g9
  revert g9
  cases a.bk<;>cases b.bk<;>simp
 cases a;cases b
 simp only [au.mk.injEq]
 exact ⟨g1,g2,g3,g4,g5,g6,g7,g8,k1,k2,k3,k4,k5⟩
end Z39
namespace Z40
inductive Pt where
 | p0 (a:an) (b c:Int)
def cF:Pt->List V
 | .p0 a b c=>[.sl none 3 a,.int .i64 b,.int .i64 c]
def step (J:Pt->aC):Pt->aC
 | .p0 a b c=>(cond (c<(a.length:Int)) (m2 c (a.length:Int) (cond ((gR a (toNat c))==b) nN (J (.p0 a b (i64.wrap (c+1)))))) fq)
def start (J:Pt->aC)(x0:an)(x1:Int):aC:=J (.p0 x0 x1 0)
def live:Nat->Live:=gx [(2,iR [0,1,5])]
def md (a0:List Int)(a1:Int):Bool:=(dQ (S:=Unit) (β:=Bool) (fun y1 s3=>(cond (y1==a1) (.inr true) (.inl ()))) (fun s3=>false) a0 ())
def gd (a0:List Int)(a1:Int):Prop:=(bf (2^38) (fun y:Int=>True) a0)
def R:=cL gd md
def aj {a0 a1}(h:gd a0 a1):R ((a0.map aQ),a1)=some (md a0 a1):=cK h
def aK:=CN [pL 3,pI] oB RT.dec R
def bn (a0)(a1)(H0:gd a0 a1):∃n,start (iter step n) (a0.map aQ) a1=ret (md a0 a1):=by
 have Bh2:=bl H0
 refine ex_eq (dV (z:=0)) (dc fz ?_)
 refine bH (pt:=fun (i1:Nat) (s3:Unit)=>Pt.p0 (a0.map aQ) a1 (i1:Int)) (fun _ _=>True) (fun J i1 s3 h2 hih2=>?_) (fun s3 hih2=>?_) trivial
 ·simp only [step,SS]
  refine aP.yes dt (aP.yes bu ?_)
  refine aP.yes (bK h2) (aP.bif (fun _=>aP.inr rfl) (fun c4=>?_))
  refine aP.inl trivial ?_
  rw [aF h2 Bh2]
 ·simp only [step,SS]
  refine cH dn (⟨0,?_⟩)
  exact fz
def af:bZ 432 aK:=L2 18 (fun _=>2) cF (fun _=>[]) live step start mix aA bn .nil Tryz.func432
end Z40
namespace Z41
def F (x0:Int)(x1:an):aC:=(ck (eG (((1:Int)+x1.length)*8)) (ck (eG (((([[L.int x0]]++x1).length)+1)*8)) (call (Z21.R (([[L.int x0]]++x1)++[[L.int x0]])) fun v1=>ret v1)))
def md (a0:Int)(a1:List Int):Int:=((Z21.md (([a0]++a1)++[a0])))
def gd (a0:Int)(a1:List Int):Prop:=(bf (2^40) (fun y:Int=>True) a1)
def R:=cL gd md
def aj {a0 a1}(h:gd a0 a1):R (a0,(a1.map aQ))=some (md a0 a1):=cK h
def aK:=CN [pI,pL 3] oI RT.dec R
def bn (a0)(a1)(H1:gd a0 a1):F a0 (a1.map aQ)=ret (md a0 a1):=by
 refine aG (have:=(H1).1;lm) (aG (have:=(H1).1;lm) ?_)
 exact cG _ (rq (Z21.aj (a0:=(([a0]++a1)++[a0])) ⟨(have:=(H1).1;om),fun _ _=>trivial⟩)) fz
def af:bZ 464 aK:=W2 13 F mix aA bn (cM Z21.af) Tryz.func464
end Z41
namespace Z42
def F (x0:Int)(x1:an):aC:=(ck (eG (((1:Int)+x1.length)*8)) (call (Z41.R (x0,([[L.int 223]]++x1))) fun v1=>ret v1))
def md (a0:Int)(a1:List Int):Int:=((Z41.md a0 ([223]++a1)))
def gd (a0:Int)(a1:List Int):Prop:=(bf (2^39) (fun y:Int=>True) a1)
def R:=cL gd md
def aj {a0 a1}(h:gd a0 a1):R (a0,(a1.map aQ))=some (md a0 a1):=cK h
def aK:=CN [pI,pL 3] oI RT.dec R
def bn (a0)(a1)(H1:gd a0 a1):F a0 (a1.map aQ)=ret (md a0 a1):=by
 refine aG (have:=(H1).1;lm) (cG _ (rq (Z41.aj (a1:=([223]++a1)) ⟨(have:=(H1).1;om),fun _ _=>trivial⟩)) ?_)
 exact fz
def af:bZ 433 aK:=W2 10 F mix aA bn (cM Z41.af) Tryz.func433
end Z42
namespace Z43
inductive Pt where
 | p0 (a b:an) (c:Int) (d:cV) (e:an)
def cF:Pt->List V
 | .p0 a b c d e=>[.sl none 3 a,.sl none 3 b,.bN 0 0,.own 1,.int .i64 c]
def dN:Pt->List aL
 | .p0 a b c d e=>[.box [.sl none 3 d.bz,.int .i64 d.dh],.row 315 e]
def step (J:Pt->aC):Pt->aC
 | .p0 a b c d e=>(cond (c<(d.bz.length:Int)) (m2 c (d.bz.length:Int) (call (Z40.R (a,(gR d.bz (toNat c)))) fun v1=>(cond v1 (m2 c (d.bz.length:Int) (m2 c (d.bz.length:Int) (call (Z42.R ((gR d.bz (toNat c)),b)) fun v2=>(ck (eG (((e.length:Int)+1)*16)) (J (.p0 a b (i64.wrap (c+1)) d (e++[(bC.enc (⟨(gR d.bz (toNat c)),v2⟩:bC))]))))))) (J (.p0 a b (i64.wrap (c+1)) d e))))) (ret (e:an)))
def start (J:Pt->aC)(x0:an)(x1:cV)(x2:an):aC:=J (.p0 x0 x2 0 x1 [])
def live:Nat->Live:=gx [(3,[(0,none),(2,none),(4,none),(7,some 315),(8,none)])]
def md (a0:List Int)(a1:aN)(a2:List Int):List bC:=(dQ (S:=List bC) (β:=List bC) (fun y1 (s3:List bC)=>(cond (Z40.md a0 y1) (.inl (s3++[(⟨y1,(Z42.md y1 a2)⟩)])) (.inl s3))) (fun (s3:List bC)=>s3) a1.bz [])
def gd (a0:List Int)(a1:aN)(a2:List Int):Prop:=(bf (2^38) (fun y:Int=>True) a0)/\(aN.Sm (2^21) a1)/\(bf (2^38) (fun y:Int=>True) a2)
def R:=lY gd md
def aj {a0 a1 a2}(h:gd a0 a1 a2):R ((a0.map aQ),(aN.r a1),(a2.map aQ))=some ((md a0 a1 a2).map bC.row):=lV h
def aK:=CN [pL 3,.agg qR,pL 3] (oL 315) RT.dec R
def bn (a0) (a1) (a2) (hg : gd a0 a1 a2) : ∃ n, start (iter step n) (a0.map aQ) (aN.r a1) (a2.map aQ) = ret ((md a0 a1 a2).map bC.row) := by
  obtain ⟨H0, H1, H2⟩ := hg
  have Bh2 := bl H1
  refine ex_eq (out := (fun b : List bC => ret ((b.map bC.row) : an))) (dV (z := 0)) (dc fz ?_)
  refine bH (pt := fun (i1 : Nat) (s3 : List bC) => Pt.p0 (a0.map aQ) (a2.map aQ) (i1 : Int) (aN.r a1) (s3.map bC.row)) (s := ([] : List bC)) (out := (fun b : List bC => ret ((b.map bC.row) : an))) (fun (i1 : Nat) (s3 : List bC) => s3.length <= ([] : List Int).length + 1 * i1) (fun J i1 s3 h2 hih2 => ?_) (fun s3 hih2 => ?_) (by simp)
  · simp only [step, SS]
    have gr_ := hih2
    simp only [LN] at gr_
    have := (H1).1
    refine aP.yes dt (aP.yes bu ?_)
    refine aP.yes (bK h2) (cr (Z40.aj H0) ?_)
    refine aP.bif (fun c4 => ?_) (fun c4 => ?_)
    · refine aP.yes bu (aP.yes (bK h2) ?_)
      refine aP.yes bu (aP.yes (bK h2) ?_)
      refine cr (Z42.aj (H2.mono (by decide) (fun x hx => trivial))) (aP.yes lm ?_)
      refine aP.inl (by
          (simp; omega)) ?_
      rw [aF h2 Bh2]
      exact fz
    · refine aP.inl (by
          (simp; omega)) ?_
      rw [aF h2 Bh2]
  · simp only [step, SS]
    refine cH dn (⟨0, ?_⟩)
    exact fz
def af:bZ 387 aK:=L3 41 (fun _=>3) cF dN live step start mix aA bn (eS Z40.af Z42.af) Tryz.func387
def Ej (a0:List Int)(a1:aN)(a2:List Int):(md a0 a1 a2).length<=a1.bz.length:=by
 have h:=uw (f:=fun (y1:Int) (s3:List bC)=>(cond (Z40.md a0 y1) (.inl (s3++[(⟨y1,(Z42.md y1 a2)⟩:bC)])) (.inl s3))) (fun y s=>by
  cases Z40.md a0 y
  ·exact ⟨s,.inl rfl,Nat.le_succ _⟩
  ·exact ⟨_,.inl rfl,by simp⟩) a1.bz []
 simpa [md] using h
end Z43
namespace Z44
def F (x0:an)(x1:cV)(x2:bL):aC:=(call (Z38.R x2) fun v1=>(call (Z39.R x2) fun v2=>(call (Z43.R (x0,x1,v2)) fun v3=>ret ((⟨v1,v3⟩):aY))))
def md (a0:List Int)(a1:aN)(a2:au):aa:=(⟨a2,(Z43.md a0 a1 (Z39.md a2))⟩)
def gd (a0:List Int)(a1:aN)(a2:au):Prop:=(bf (2^38) (fun y:Int=>True) a0)/\(aN.Sm (2^21) a1)/\(au.Sm (2^21) a2)
def R:=lY gd md
def aj {a0 a1 a2}(h:gd a0 a1 a2):R ((a0.map aQ),(aN.r a1),(au.r a2))=some (aa.r (md a0 a1 a2)):=lV h
def aK:=CN [pL 3,.agg qR,.agg lC] (.agg f53) RT.dec R
def bn (a0)(a1)(a2)(hg:gd a0 a1 a2):F (a0.map aQ) (aN.r a1) (au.r a2)=ret (aa.r (md a0 a1 a2)):=by
 obtain ⟨H0,H1,H2⟩:=hg
 refine ct (Z38.aj H2) (ct (Z39.aj H2) ?_)
 exact ct (Z43.aj ⟨H0,H1,⟨(have:=Z39.len a2;have:=(H2.1).1;have:=(H2.2.1).1;have:=(H2.2.2).1;om),fun _ _=>trivial⟩⟩) fz
def af:bZ 326 aK:=W3 15 F mix aA bn (jw Z38.af Z39.af Z43.af) Tryz.func326
def fc {a0:List Int}{a1:aN}{a2:au}(hg:gd a0 a1 a2):aa.Sm (2^21) (md a0 a1 a2):=⟨hg.2.2,le_trans (Z43.Ej _ _ _) hg.2.1.1,fun _ _=>trivial⟩
def DO {k:Nat}{a0:List Int}{a1:aN}{a2:au}(h1:aN.Sm k a1)(h2:au.Sm k a2):aa.Sm k (md a0 a1 a2):=
 ⟨h2,le_trans (Z43.Ej _ _ _) h1.1,fun _ _=>trivial⟩
end Z44
namespace Z45
def F (x0:cV)(x1:Int)(x2:an)(x3 x4:Int):aC:=(call (Z37.R (x0,x1,x2,x3,x4)) fun v1=>(cond (!v1.2) (ret (((⟨[],[]⟩),false):bT×Bool)) (call (Z44.R (x0.bz,x0,v1.1)) fun v2=>(call (Z16.R x2) fun v3=>ret (((⟨[(aY.enc v2)],v3⟩),true):bT×Bool)))))
def md (a0:aN)(a1:Int)(a2:List ah)(a3 a4:Int):aI×Bool:=(cond (!(Z37.md a0 a1 a2 a3 a4).2) ((⟨[],[]⟩),false) ((⟨[(Z44.md a0.bz a0 ((Z37.md a0 a1 a2 a3 a4).1))],a2⟩),true))
def gd (a0:aN)(a1:Int)(a2:List ah)(a3 a4:Int):Prop:=(aN.Sm (2^21) a0)/\(bf (2^21) (fun y:ah=>ah.Sm (2^21) y) a2)
def R:=qL gd md
def aj {a0 a1 a2 a3 a4}(h:gd a0 a1 a2 a3 a4):R ((aN.r a0),a1,(a2.map ah.row),a3,a4)=some ((aI.r (md a0 a1 a2 a3 a4).1),(md a0 a1 a2 a3 a4).2):=qA h
def aK:=CN [.agg qR,pI,pL 62,pI,pI] (.gS [(true,f188),(false,[fB])]) RT.dec R
def bn (a0)(a1)(a2)(a3)(a4)(hg:gd a0 a1 a2 a3 a4):F (aN.r a0) a1 (a2.map ah.row) a3 a4=ret ((aI.r (md a0 a1 a2 a3 a4).1),(md a0 a1 a2 a3 a4).2):=by
 obtain ⟨H0,H2⟩:=hg
 refine ct (Z37.aj ⟨H0,H2⟩) (bP (fun b:aI×Bool=>ret (((aI.r b.1),b.2):bT×Bool)) (fun c1=>fz) (fun c1=>?_))
 refine ct (Z44.aj ⟨(H0.mono (by decide) (fun x hx=>trivial)),H0,(Z37.fc ⟨H0,H2⟩)⟩) (ct (Z16.aj H2) ?_)
 exact fz
def af:bZ 255 aK:=W5 35 F mix aA bn (jw Z37.af Z44.af Z16.af) Tryz.func255
def EO (a0:Int):0<=Z20.md a0 2147483647/\Z20.md a0 2147483647<2147483647:=by
 have h:=Int.tmod_lt_of_pos a0 (b:=2147483647) (by decide)
 have h2:-2147483647<Int.tmod a0 2147483647:=by
  have:=Int.tmod_lt_of_pos (-a0) (b:=2147483647) (by decide)
  rw [Int.neg_tmod] at this;omega
 have e:Z20.md a0 2147483647=Int.tmod (i64.wrap (Int.tmod a0 2147483647+2147483647)) 2147483647:=rfl
 rw [e,wi _ (by omega)]
 exact rU (by omega) (by decide)
def C2 (a0:List Int):0<=Z21.md a0/\Z21.md a0<2147483647:=by
 have key:∀(xs:List Int) (s:Int),0<=s->s<2147483647->0<=dQ (fun (y1:Int) (s3:Int)=>(.inl (Int.tmod (i64.wrap ((i64.wrap ((i64.wrap (s3*1000003))+(Z20.md y1 2147483647)))+13)) 2147483647))) (fun (s3:Int)=>(s3:Int)) xs s/\dQ (fun (y1:Int) (s3:Int)=>(.inl (Int.tmod (i64.wrap ((i64.wrap ((i64.wrap (s3*1000003))+(Z20.md y1 2147483647)))+13)) 2147483647))) (fun (s3:Int)=>(s3:Int)) xs s<2147483647:=by
  intro xs
  induction xs with
  | nil=>intro s h1 h2;exact ⟨h1,h2⟩
  | cons x xs ih=>
   intro s h1 h2
   have h3:=EO x
   have h4:0<=Int.tmod (i64.wrap ((i64.wrap ((i64.wrap (s*1000003))+(Z20.md x 2147483647)))+13)) 2147483647/\Int.tmod (i64.wrap ((i64.wrap ((i64.wrap (s*1000003))+(Z20.md x 2147483647)))+13)) 2147483647<2147483647:=by
    rw [wi (s*1000003) (by omega),wi (s*1000003+Z20.md x 2147483647) (by omega),wi _ (by omega)]
    exact rU (by omega) (by decide)
   exact ih _ h4.1 h4.2
 exact key a0 11 (by decide) (by decide)
def ok (z:aI):Prop:=(1<=z.aD.length/\bf 12 (fun y:aa=>aa.Sm 64 y) z.aD)/\bf 12 (fun y:ah=>ah.Sm 64 y) z.bI/\Z15.md z.bI=true
def AW {z:aI}(h:ok z):aI.Sm 64 z:=⟨h.1.2.mono (by decide) fun _ h=>h,h.2.1.mono (by decide) fun _ h=>h⟩
def yM {k s:Int}{l:List ah}{now term:Int}(hk:1<=k/\k<=99)(hs:0<=s/\s<=2147483646)(hn:0<=now)(ht:0<=term/\term<=200)(hm:now+term<=100000)(hl:∀z∈l,ah.Sm 64 z)(ha:Z15.md l=true):ok (md ⟨[k],1⟩ s l now term).1:=by
 have inr:∀{x a b:Int},a<=x/\x<=b->Z11.md x a b=true:=fun h=>by simp [Z11.md];exact h
 have hz:=C2 ([239,s]++Z19.md ⟨[k],1⟩)
 have hr:=C2 [231,(l.length:Int),Z30.md (Z27.md l)]
 have h12:=Z15.tr ha
 have hik:Z34.md ⟨[k],1⟩=true:=by
  unfold Z34.md
  simp only [dD,inr hk,Bool.not_true,aU]
  rfl
 have e:Z37.md ⟨[k],1⟩ s l now term=(⟨Z22.md ⟨[k],1⟩ s,0,1,now,i64.wrap (now+term),(l.length:Int),Z32.md l,s,⟨[k],1⟩,⟨[],0⟩,0,⟨[],0⟩,false⟩,true):=by
  unfold Z37.md
  have e1:Z11.md now 0 100000=true:=inr (by omega)
  have e2:Z11.md term 0 200=true:=inr ht
  have hh:Z36.md ⟨Z22.md ⟨[k],1⟩ s,0,1,now,i64.wrap (now+term),(l.length:Int),Z32.md l,s,⟨[k],1⟩,⟨[],0⟩,0,⟨[],0⟩,false⟩=true:=by
   unfold Z36.md
   have a1:Z11.md (Z22.md ⟨[k],1⟩ s) 0 2147483646=true:=inr (by unfold Z22.md;omega)
   have a2:Z11.md (Z32.md l) 0 2147483646=true:=inr (by unfold Z32.md Z31.md;omega)
   have a3:Z11.md s 0 2147483646=true:=inr hs
   have a4:Z11.md now 0 100000=true:=e1
   have a5:Z11.md (i64.wrap (now+term)) now 100000=true:=inr (by rw [wi _ (by omega)];omega)
   have a6:decide (i64.wrap (i64.wrap (now+term) - now)>200)=false:=by
    rw [wi (now+term) (by omega),wi _ (by omega)];apply decide_eq_false;omega
   have a7:Z11.md (l.length:Int) 0 12=true:=inr (by omega)
   simp only [a1,a2,a3,a4,a5,a6,a7,hik,Bool.not_true,aU]
   rfl
  rw [ha,e1,e2,hh]
  rfl
 have hSm:aN.Sm 64 ⟨[k],1⟩:=⟨(show (1:Nat)<=64 by decide),fun _ _=>trivial⟩
 unfold md
 rw [e]
 refine ⟨⟨Nat.le_refl _,(show (1:Nat)<=12 by decide),?_⟩,⟨h12,hl⟩,ha⟩
 intro x hx
 have hx:x=_:=List.mem_singleton.1 hx
 rw [hx]
 exact Z44.DO hSm ⟨hSm,bf.nil,bf.nil⟩
end Z45
namespace Z46
def F (x0:bC)(x1:an):aC:=(call (Z11.R (x0.jI,1,99)) fun v1=>(cond v1 (call (Z42.R (x0.jI,x1)) fun v2=>ret ((x0.ox==v2))) (ret false)))
def md (a0:bC)(a1:List Int):Bool:=(cond (Z11.md a0.jI 1 99) ((a0.ox==(Z42.md a0.jI a1))) false)
def gd (a0:bC)(a1:List Int):Prop:=(bf (2^38) (fun y:Int=>True) a1)
def R:=cL gd md
def aj {a0 a1}(h:gd a0 a1):R (a0,(a1.map aQ))=some (md a0 a1):=cK h
def aK:=CN [.agg Dk,pL 3] oB RT.dec R
def bn (a0)(a1)(H1:gd a0 a1):F a0 (a1.map aQ)=ret (md a0 a1):=by
 refine ct (Z11.aj trivial) (bs (fun c1=>?_) (fun _=>rfl))
 exact ct (Z42.aj (H1.mono (by decide) (fun x hx=>trivial))) fz
def af:bZ 423 aK:=W2 17 F mix aA bn (eS Z11.af Z42.af) Tryz.func423
end Z46
namespace Z47
inductive Pt where
 | p0 (a b:an) (c d:Int) (e:cV)
 | p1 (a b:an) (c d e:Int) (f:cV)
def pid:Pt->Nat
 | .p0 ..=>3
 | .p1 ..=>6
def cF:Pt->List V
 | .p0 a b c d e=>[.sl none 3 a,.sl none 315 b,.bN 0 0,.int .i64 c,.int .i64 d]
 | .p1 a b c d e f=>[.sl none 3 a,.sl none 315 b,.bN 0 0,.int .i64 c,.int .i64 d,.int .i64 e]
def dN:Pt->List aL
 | .p0 a b c d e=>[.box [.sl none 3 e.bz,.int .i64 e.dh]]
 | .p1 a b c d e f=>[.box [.sl none 3 f.bz,.int .i64 f.dh]]
def step (J:Pt->aC):Pt->aC
 | .p0 a b c d e=>(cond (d<(e.bz.length:Int)) (J (.p1 a b c d 0 e)) (ret (c:Int)))
 | .p1 a b c d e f=>(cond (e<(b.length:Int)) (m2 e (b.length:Int) (m2 d (f.bz.length:Int) (cond ((bC.at b (toNat e)).jI==(gR f.bz (toNat d))) (m2 e (b.length:Int) (call (Z46.R ((bC.at b (toNat e)),a)) fun v1=>(cond v1 (J (.p0 a b (i64.wrap (c+1)) (i64.wrap (d+1)) f)) (J (.p1 a b c d (i64.wrap (e+1)) f))))) (J (.p1 a b c d (i64.wrap (e+1)) f))))) (J (.p0 a b c (i64.wrap (d+1)) f)))
def start (J:Pt->aC)(x0:cV)(x1 x2:an):aC:=J (.p0 x1 x2 0 0 x0)
def live:Nat->Live:=gx [(3,iR [1,2,3,7,8]),(6,iR [1,2,3,7,8,9])]
def md (a0:aN)(a1:List Int)(a2:List bC):Int:=(dQ (S:=Int) (β:=Int) (fun y1 s3=>(dQ (S:=Unit) (β:=(Int⊕Int)) (fun y5 s7=>(cond (y5.jI==y1) (cond (Z46.md y5 a1) (.inr (.inl (i64.wrap (s3+1)))) (.inl ())) (.inl ()))) (fun s7=>(.inl s3)) a2 ())) (fun s3=>s3) a0.bz 0)
def gd (a0:aN)(a1:List Int)(a2:List bC):Prop:=(aN.Sm (2^21) a0)/\(bf (2^38) (fun y:Int=>True) a1)/\(bf (2^21) (fun y:bC=>bC.Sm (2^21) y) a2)
def R:=lY gd md
def aj {a0 a1 a2}(h:gd a0 a1 a2):R ((aN.r a0),(a1.map aQ),(a2.map bC.row))=some (md a0 a1 a2):=lV h
def aK:=CN [.agg qR,pL 3,pL 315] oI RT.dec R
def bn (a0)(a1)(a2)(hg:gd a0 a1 a2):∃n,start (iter step n) (aN.r a0) (a1.map aQ) (a2.map bC.row)=ret (md a0 a1 a2):=by
 obtain ⟨H0,H1,H2⟩:=hg
 have Bh2:=bl H0
 refine ex_eq (dV (z:=0)) (dc fz ?_)
 refine wR (pt:=fun (i1:Nat) (s3:Int)=>Pt.p0 (a1.map aQ) (a2.map bC.row) s3 (i1:Int) (aN.r a0)) (fun _ _=>True) (fun i1 s3 h2 hih2 K4 hK4 rK4=>?_) (fun s3 hih2=>?_) trivial
 ·simp only [step,SS]
  refine dJ dt ?_
  have Bh6:=bl H2
  refine ex_eq (dV (z:=bC.zero)) (dc fz ?_)
  refine wR (pt:=fun (i5:Nat) (s7:Unit)=>Pt.p1 (a1.map aQ) (a2.map bC.row) s3 (i1:Int) (i5:Int) (aN.r a0)) (fun _ _=>True) (fun i5 s7 h6 hih6 K8 hK8 rK8=>?_) (fun s7 hih6=>?_) trivial
  ·simp only [step,SS]
   refine dJ dt (dJ bu ?_)
   refine dJ (bK h6) (dJ dt ?_)
   refine dJ dt (gB K8 (fun c9=>?_) (fun c9=>?_))
   ·refine dJ bu (dJ (bK h6) ?_)
    refine cx (Z46.aj H1) (gB K8 (fun c10=>?_) (fun c10=>?_))
    ·rw [rK8]
     rw [aF h2 Bh2]
     exact hK4 _ trivial
    ·rw [aF h6 Bh6]
     exact hK8 _ trivial
   ·rw [aF h6 Bh6]
    exact hK8 _ trivial
  ·simp only [step,SS]
   refine cH dn ?_
   rw [aF h2 Bh2]
   exact hK4 _ trivial
 ·simp only [step,SS]
  refine cH dn (⟨0,?_⟩)
  exact fz
def af:bZ 368 aK:=L3 45 pid cF dN live step start mix aA bn (cM Z46.af) Tryz.func368
end Z47
namespace Z48
def F (x0:cV)(x1 x2:an):aC:=(call (Z34.R x0) fun v1=>(cond v1 (call (Z47.R (x0,x1,x2)) fun v2=>ret ((decide (v2>=x0.dh)))) (ret false)))
def md (a0:aN)(a1:List Int)(a2:List bC):Bool:=(cond (Z34.md a0) ((decide ((Z47.md a0 a1 a2)>=a0.dh))) false)
def gd (a0:aN)(a1:List Int)(a2:List bC):Prop:=(aN.Sm (2^21) a0)/\(bf (2^38) (fun y:Int=>True) a1)/\(bf (2^21) (fun y:bC=>bC.Sm (2^21) y) a2)
def R:=lY gd md
def aj {a0 a1 a2}(h:gd a0 a1 a2):R ((aN.r a0),(a1.map aQ),(a2.map bC.row))=some (md a0 a1 a2):=lV h
def aK:=CN [.agg qR,pL 3,pL 315] oB RT.dec R
def bn (a0)(a1)(a2)(hg:gd a0 a1 a2):F (aN.r a0) (a1.map aQ) (a2.map bC.row)=ret (md a0 a1 a2):=by
 obtain ⟨H0,H1,H2⟩:=hg
 refine ct (Z34.aj H0) (bs (fun c1=>?_) (fun _=>rfl))
 exact ct (Z47.aj ⟨H0,H1,H2⟩) fz
def af:bZ 300 aK:=W3 18 F mix aA bn (eS Z34.af Z47.af) Tryz.func300
end Z48
namespace Z49
def F (x0:aY):aC:=(call (Z36.R x0.aq) fun v1=>(cond v1 (cond (x0.aq.cy==0) (cond (x0.aq.bE==1) (cond (!x0.aq.bk) (call (Z22.R (x0.aq.bU,x0.aq.dX)) fun v2=>(cond (x0.aq.aS==v2) (call (Z39.R x0.aq) fun v3=>(call (Z48.R (x0.aq.bU,v3,x0.dR)) fun v4=>ret v4)) (ret false))) (ret false)) (ret false)) (ret false)) (ret false)))
def md (a0:aa):Bool:=(cond (Z36.md a0.aq) (cond (a0.aq.cy==0) (cond (a0.aq.bE==1) (cond (!a0.aq.bk) (cond (a0.aq.aS==(Z22.md a0.aq.bU a0.aq.dX)) ((Z48.md a0.aq.bU (Z39.md a0.aq) a0.dR)) false) false) false) false) false)
def gd (a0:aa):Prop:=(aa.Sm (2^21) a0)
def R:=RR gd md
def aj {a0}(h:gd a0):R (aa.r a0)=some (md a0):=cO h
def aK:=CN [.agg we] oB RT.dec R
def bn (a0)(H0:gd a0):F (aa.r a0)=ret (md a0):=by
 refine ct (Z36.aj H0.1) (bs (fun c1=>?_) (fun _=>rfl))
 refine bs (fun c2=>?_) (fun _=>rfl)
 refine bs (fun c3=>?_) (fun _=>rfl)
 refine bs (fun c4=>?_) (fun _=>rfl)
 refine ct (Z22.aj H0.1.1) (bs (fun c5=>?_) (fun _=>rfl))
 refine ct (Z39.aj H0.1) (ct (Z48.aj ⟨H0.1.1,⟨(have:=Z39.len a0.aq;have:=(H0.1.1).1;have:=(H0.1.2.1).1;have:=(H0.1.2.2).1;om),fun _ _=>trivial⟩,H0.2⟩) ?_)
 exact fz
def af:bZ 226 aK:=W1 42 F mix aA bn (nQ Z36.af Z22.af Z39.af Z48.af) Tryz.func226
end Z49
namespace Z50
def F (x0:bL):aC:=(call (Z39.R x0) fun v1=>(ck (eG (((1:Int)+v1.length)*8)) (call (Z21.R ([[L.int 233]]++v1)) fun v2=>ret v2)))
def md (a0:au):Int:=((Z21.md ([233]++(Z39.md a0))))
def gd (a0:au):Prop:=(au.Sm (2^21) a0)
def R:=RR gd md
def aj {a0}(h:gd a0):R (au.r a0)=some (md a0):=cO h
def aK:=CN [.agg lC] oI RT.dec R
def bn (a0)(H0:gd a0):F (au.r a0)=ret (md a0):=by
 refine ct (Z39.aj H0) (aG (have:=Z39.len a0;have:=(H0.1).1;have:=(H0.2.1).1;have:=(H0.2.2).1;lm) ?_)
 exact cG _ (rq (Z21.aj (a0:=([233]++(Z39.md a0))) ⟨(have:=Z39.len a0;have:=(H0.1).1;have:=(H0.2.1).1;have:=(H0.2.2).1;om),fun _ _=>trivial⟩)) fz
def af:bZ 369 aK:=W1 8 F mix aA bn (eS Z39.af Z21.af) Tryz.func369
end Z50
namespace Z51
def F (x0 x1:bL):aC:=(cond x0.bk (ret (4:Int)) (cond x1.bk (ret (6:Int)) (ret (1:Int))))
def md (a0 a1:au):Int:=(cond a0.bk (4:Int) (cond a1.bk (6:Int) (1:Int)))
def gd (a0 a1:au):Prop:=True
def R:=cL gd md
def aj {a0 a1}(h:gd a0 a1):R ((au.r a0),(au.r a1))=some (md a0 a1):=cK h
def aK:=CN [.agg lC,.agg lC] oI RT.dec R
def bn (a0)(a1)(hg:gd a0 a1):F (au.r a0) (au.r a1)=ret (md a0 a1):=by
 refine bs (fun _=>rfl) (fun c1=>?_)
 refine bs (fun _=>rfl) (fun _=>rfl)
def af:bZ 370 aK:=W2 11 F mix aA bn .nil Tryz.func370
end Z51
namespace Z52
inductive Pt where
 | p0 (a b:an) (c:Int)
def cF:Pt->List V
 | .p0 a b c=>[.sl none 3 a,.sl none 3 b,.int .i64 c]
def step (J:Pt->aC):Pt->aC
 | .p0 a b c=>(cond (c<(a.length:Int)) (m2 c (a.length:Int) (m2 c (b.length:Int) (cond ((gR a (toNat c)) != (gR b (toNat c))) fq (J (.p0 a b (i64.wrap (c+1))))))) nN)
def start (J:Pt->aC)(x0 x1:an):aC:=(cond (x0.length != (x1.length:Int)) (ret false) (J (.p0 x0 x1 0)))
def live:Nat->Live:=gx [(4,iR [0,1,5])]
def md (a0 a1:List Int):Bool:=(bif (a0.length != (a1.length:Int)) then false else (eu (S:=Unit) (β:=Bool) (fun i2 s4=>(cond ((a0.getD i2 0) != (a1.getD i2 0)) (.inr false) (.inl ()))) (fun s4=>true) a0.length 0 ()))
def gd (a0 a1:List Int):Prop:=(bf (2^38) (fun y:Int=>True) a0)/\(bf (2^38) (fun y:Int=>True) a1)
def R:=cL gd md
def aj {a0 a1}(h:gd a0 a1):R ((a0.map aQ),(a1.map aQ))=some (md a0 a1):=cK h
def aK:=CN [pL 3,pL 3] oB RT.dec R
def bn (a0)(a1)(hg:gd a0 a1):∃n,start (iter step n) (a0.map aQ) (a1.map aQ)=ret (md a0 a1):=by
 obtain ⟨H0,H1⟩:=hg
 unfold start md
 simp only [SS]
 refine gB ret (fun _=>⟨0,rfl⟩) (fun c1=>?_)
 have dc1:=c1
 simp only [DC] at dc1
 have Bh3:=bl H0
 refine dc fz (bH (pt:=fun (i2:Nat) (s4:Unit)=>Pt.p0 (a0.map aQ) (a1.map aQ) (i2:Int)) (fun _ _=>True) (fun J i2 s4 h3 hih3=>?_) (fun s4 hih3=>?_) trivial)
 ·simp only [step,SS]
  refine aP.yes dt (aP.yes bu ?_)
  refine aP.yes (bK h3) (aP.yes bu ?_)
  refine aP.yes dt (aP.bif (fun _=>aP.inr rfl) (fun c5=>?_))
  refine aP.inl trivial ?_
  rw [aF h3 Bh3]
 ·simp only [step,SS]
  refine cH dn (⟨0,?_⟩)
  exact fz
def af:bZ 291 aK:=L2 26 (fun _=>4) cF (fun _=>[]) live step start mix aA bn .nil Tryz.func291
def md_eq (a0 a1:List Int):md a0 a1=iM a0 a1:=by
 refine iL (0) (fun i s h h2=>?_) (fun s=>rfl)
 simp only [bne,jC,bool_beq,fY]
 cases iM _ _<;>rfl
end Z52
namespace Z53
def F (x0 x1:cV):aC:=(cond (x0.dh==x1.dh) (call (Z52.R (x0.bz,x1.bz)) fun v1=>ret v1) (ret false))
def md (a0 a1:aN):Bool:=(cond (a0.dh==a1.dh) ((Z52.md a0.bz a1.bz)) false)
def gd (a0 a1:aN):Prop:=(aN.Sm (2^21) a0)/\(aN.Sm (2^21) a1)
def R:=cL gd md
def aj {a0 a1}(h:gd a0 a1):R ((aN.r a0),(aN.r a1))=some (md a0 a1):=cK h
def aK:=CN [.agg qR,.agg qR] oB RT.dec R
def bn (a0)(a1)(hg:gd a0 a1):F (aN.r a0) (aN.r a1)=ret (md a0 a1):=by
 obtain ⟨H0,H1⟩:=hg
 refine bs (fun c1=>?_) (fun _=>rfl)
 exact ct (Z52.aj ⟨(H0.mono (by decide) (fun x hx=>trivial)),(H1.mono (by decide) (fun x hx=>trivial))⟩) fz
def af:bZ 424 aK:=W2 17 F mix aA bn (cM Z52.af) Tryz.func424
def md_eq (a0 a1:aN):md a0 a1=iM a0 a1:=by
 unfold md
 cases a0;cases a1
 rw [Bool.eq_iff_iff]
 simp [dM,fY,aN.mk.injEq,Z52.md_eq]
 try (constructor<;>(intro h;simp_all))
end Z53
namespace Z54
def F (x0 x1:bL):aC:=(cond (x0.cj==x1.cj) (ret ((x0.dx==x1.dx))) (ret false))
def md (a0 a1:au):Bool:=(cond (a0.cj==a1.cj) ((a0.dx==a1.dx)) false)
def gd (a0 a1:au):Prop:=True
def R:=cL gd md
def aj {a0 a1}(h:gd a0 a1):R ((au.r a0),(au.r a1))=some (md a0 a1):=cK h
def aK:=CN [.agg lC,.agg lC] oB RT.dec R
def bn (a0)(a1)(hg:gd a0 a1):F (au.r a0) (au.r a1)=ret (md a0 a1):=by
 refine bs (fun c1=>?_) (fun _=>rfl)
 exact fz
def af:bZ 425 aK:=W2 17 F mix aA bn .nil Tryz.func425
end Z54
namespace Z55
def F (x0 x1:bL):aC:=(cond x0.bk (ret (4:Int)) (call (Z35.R x0.bF) fun v1=>(cond v1 (ret (5:Int)) (cond (x1.cg<(i64.wrap (x0.cq+x0.cT))) (ret (5:Int)) (cond x1.bk (ret (6:Int)) (call (Z53.R (x1.bU,x0.bF)) fun v2=>(cond (!v2) (ret (6:Int)) (call (Z54.R (x1,x0)) fun v3=>(cond (!v3) (ret (6:Int)) (ret (1:Int)))))))))))
def md (a0 a1:au):Int:=(cond a0.bk (4:Int) (cond (Z35.md a0.bF) (5:Int) (cond (a1.cg<(i64.wrap (a0.cq+a0.cT))) (5:Int) (cond a1.bk (6:Int) (cond (!(Z53.md a1.bU a0.bF)) (6:Int) (cond (!(Z54.md a1 a0)) (6:Int) (1:Int)))))))
def gd (a0 a1:au):Prop:=(au.Sm (2^21) a0)/\(au.Sm (2^21) a1)
def R:=cL gd md
def aj {a0 a1}(h:gd a0 a1):R ((au.r a0),(au.r a1))=some (md a0 a1):=cK h
def aK:=CN [.agg lC,.agg lC] oI RT.dec R
def bn (a0)(a1)(hg:gd a0 a1):F (au.r a0) (au.r a1)=ret (md a0 a1):=by
 obtain ⟨H0,H1⟩:=hg
 refine bs (fun _=>rfl) (fun c1=>?_)
 refine ct (Z35.aj trivial) (bs (fun _=>rfl) (fun c2=>?_))
 refine bs (fun _=>rfl) (fun c3=>?_)
 refine bs (fun _=>rfl) (fun c4=>?_)
 refine ct (Z53.aj ⟨H1.1,H0.2.1⟩) (bs (fun _=>rfl) (fun c5=>?_))
 refine ct (Z54.aj trivial) (bs (fun _=>rfl) (fun _=>rfl))
def af:bZ 371 aK:=W2 39 F mix aA bn (jw Z35.af Z53.af Z54.af) Tryz.func371
end Z55
namespace Z56
def F (x0 x1:bL):aC:=(call (Z35.R x0.bB) fun v1=>(cond v1 (ret (5:Int)) (cond (x1.bk==x0.bk) (ret (6:Int)) (call (Z54.R (x1,x0)) fun v2=>(cond (!v2) (ret (6:Int)) (call (Z53.R (x1.bB,x0.bB)) fun v3=>(cond (!v3) (ret (6:Int)) (call (Z53.R (x1.bF,x0.bF)) fun v4=>(cond (!v4) (ret (6:Int)) (cond (x1.cT != x0.cT) (ret (6:Int)) (cond x1.bk (call (Z53.R (x1.bU,x0.bU)) fun v5=>(cond (!v5) (ret (6:Int)) (ret (1:Int)))) (ret (1:Int)))))))))))))
def md (a0 a1:au):Int:=(cond (Z35.md a0.bB) (5:Int) (cond (a1.bk==a0.bk) (6:Int) (cond (!(Z54.md a1 a0)) (6:Int) (cond (!(Z53.md a1.bB a0.bB)) (6:Int) (cond (!(Z53.md a1.bF a0.bF)) (6:Int) (cond (a1.cT != a0.cT) (6:Int) (cond a1.bk (cond (!(Z53.md a1.bU a0.bU)) (6:Int) (1:Int)) (1:Int))))))))
def gd (a0 a1:au):Prop:=(au.Sm (2^21) a0)/\(au.Sm (2^21) a1)
def R:=cL gd md
def aj {a0 a1}(h:gd a0 a1):R ((au.r a0),(au.r a1))=some (md a0 a1):=cK h
def aK:=CN [.agg lC,.agg lC] oI RT.dec R
def bn (a0)(a1)(hg:gd a0 a1):F (au.r a0) (au.r a1)=ret (md a0 a1):=by
 obtain ⟨H0,H1⟩:=hg
 refine ct (Z35.aj trivial) (bs (fun _=>rfl) (fun c1=>?_))
 refine bs (fun _=>rfl) (fun c2=>?_)
 refine ct (Z54.aj trivial) (bs (fun _=>rfl) (fun c3=>?_))
 refine ct (Z53.aj ⟨H1.2.2,H0.2.2⟩) (bs (fun _=>rfl) (fun c4=>?_))
 refine ct (Z53.aj ⟨H1.2.1,H0.2.1⟩) (bs (fun _=>rfl) (fun c5=>?_))
 refine bs (fun _=>rfl) (fun c6=>?_)
 refine bs (fun c7=>?_) (fun _=>rfl)
 refine ct (Z53.aj ⟨H1.1,H0.1⟩) (bs (fun _=>rfl) (fun _=>rfl))
def af:bZ 372 aK:=W2 55 F mix aA bn (jw Z35.af Z54.af Z53.af) Tryz.func372
end Z56
namespace Z57
def F (x0:bL)(x1:aY):aC:=(call (Z36.R x0) fun v1=>(cond (!v1) (ret (2:Int)) (call (Z36.R x1.aq) fun v2=>(cond (!v2) (ret (2:Int)) (cond (x1.aq.aS != x0.aS) (ret (3:Int)) (cond (x1.aq.cy != (i64.wrap (x0.cy+1))) (ret (3:Int)) (call (Z50.R x0) fun v3=>(cond (x1.aq.dX != v3) (ret (3:Int)) (cond (x1.aq.cg<x0.cg) (ret (3:Int)) (call (Z51.R (x0,x1.aq)) fun v4=>(cond (x1.aq.bE==2) (call (Z55.R (x0,x1.aq)) fun v5=>(cond (v5==1) (call (Z39.R x1.aq) fun v6=>(call (Z48.R (x0.bF,v6,x1.dR)) fun v7=>(cond (!v7) (ret (7:Int)) (ret v5)))) (ret v5))) (cond (x1.aq.bE==3) (call (Z56.R (x0,x1.aq)) fun v8=>(cond (v8==1) (call (Z39.R x1.aq) fun v9=>(call (Z48.R (x0.bB,v9,x1.dR)) fun v10=>(cond (!v10) (ret (7:Int)) (ret v8)))) (ret v8))) (cond (v4==1) (call (Z39.R x1.aq) fun v11=>(call (Z48.R (x0.bU,v11,x1.dR)) fun v12=>(cond (!v12) (ret (7:Int)) (ret v4)))) (ret v4))))))))))))))
def md (a0:au)(a1:aa):Int:=(cond (!(Z36.md a0)) (2:Int) (cond (!(Z36.md a1.aq)) (2:Int) (cond (a1.aq.aS != a0.aS) (3:Int) (cond (a1.aq.cy != (i64.wrap (a0.cy+1))) (3:Int) (cond (a1.aq.dX != (Z50.md a0)) (3:Int) (cond (a1.aq.cg<a0.cg) (3:Int) (cond (a1.aq.bE==2) (cond ((Z55.md a0 a1.aq)==1) (cond (!(Z48.md a0.bF (Z39.md a1.aq) a1.dR)) (7:Int) ((Z55.md a0 a1.aq))) ((Z55.md a0 a1.aq))) (cond (a1.aq.bE==3) (cond ((Z56.md a0 a1.aq)==1) (cond (!(Z48.md a0.bB (Z39.md a1.aq) a1.dR)) (7:Int) ((Z56.md a0 a1.aq))) ((Z56.md a0 a1.aq))) (cond ((Z51.md a0 a1.aq)==1) (cond (!(Z48.md a0.bU (Z39.md a1.aq) a1.dR)) (7:Int) ((Z51.md a0 a1.aq))) ((Z51.md a0 a1.aq)))))))))))
def gd (a0:au)(a1:aa):Prop:=(au.Sm (2^21) a0)/\(aa.Sm (2^21) a1)
def R:=cL gd md
def aj {a0 a1}(h:gd a0 a1):R ((au.r a0),(aa.r a1))=some (md a0 a1):=cK h
def aK:=CN [.agg lC,.agg we] oI RT.dec R
def bn (a0)(a1)(hg:gd a0 a1):F (au.r a0) (aa.r a1)=ret (md a0 a1):=by
 obtain ⟨H0,H1⟩:=hg
 refine ct (Z36.aj H0) (bs (fun _=>rfl) (fun c1=>?_))
 refine ct (Z36.aj H1.1) (bs (fun _=>rfl) (fun c2=>?_))
 refine bs (fun _=>rfl) (fun c3=>?_)
 refine bs (fun _=>rfl) (fun c4=>?_)
 refine ct (Z50.aj H0) (bs (fun _=>rfl) (fun c5=>?_))
 refine bs (fun _=>rfl) (fun c6=>?_)
 refine ct (Z51.aj trivial) (bs (fun c7=>?_) (fun c7=>?_))
 ·refine ct (Z55.aj ⟨H0,H1.1⟩) (bs (fun c8=>?_) (fun c8=>fz))
  refine ct (Z39.aj H1.1) (ct (Z48.aj ⟨H0.2.1,⟨(have:=Z39.len a1.aq;have:=(H1.1.1).1;have:=(H1.1.2.1).1;have:=(H1.1.2.2).1;om),fun _ _=>trivial⟩,H1.2⟩) ?_)
  refine bs (fun _=>rfl) (fun c9=>?_)
  exact fz
 ·refine bs (fun c10=>?_) (fun c10=>?_)
  ·refine ct (Z56.aj ⟨H0,H1.1⟩) (bs (fun c11=>?_) (fun c11=>fz))
   refine ct (Z39.aj H1.1) (ct (Z48.aj ⟨H0.2.2,⟨(have:=Z39.len a1.aq;have:=(H1.1.1).1;have:=(H1.1.2.1).1;have:=(H1.1.2.2).1;om),fun _ _=>trivial⟩,H1.2⟩) ?_)
   refine bs (fun _=>rfl) (fun c12=>?_)
   exact fz
  ·refine bs (fun c13=>?_) (fun c13=>fz)
   refine ct (Z39.aj H1.1) (ct (Z48.aj ⟨H0.1,⟨(have:=Z39.len a1.aq;have:=(H1.1.1).1;have:=(H1.1.2.1).1;have:=(H1.1.2.2).1;om),fun _ _=>trivial⟩,H1.2⟩) ?_)
   refine bs (fun _=>rfl) (fun c14=>?_)
   exact fz
def af:bZ 301 aK:=W2 78 F mix aA bn (Ad Z36.af Z50.af Z51.af Z55.af Z39.af Z48.af Z56.af) Tryz.func301
end Z57
namespace Z58
def F (x0:bL)(x1:aY):aC:=(call (Z57.R (x0,x1)) fun v1=>ret ((v1==1)))
def md (a0:au)(a1:aa):Bool:=(((Z57.md a0 a1)==1))
def gd (a0:au)(a1:aa):Prop:=(au.Sm (2^21) a0)/\(aa.Sm (2^21) a1)
def R:=cL gd md
def aj {a0 a1}(h:gd a0 a1):R ((au.r a0),(aa.r a1))=some (md a0 a1):=cK h
def aK:=CN [.agg lC,.agg we] oB RT.dec R
def bn (a0)(a1)(hg:gd a0 a1):F (au.r a0) (aa.r a1)=ret (md a0 a1):=by
 obtain ⟨H0,H1⟩:=hg
 exact ct (Z57.aj ⟨H0,H1⟩) fz
def af:bZ 227 aK:=W2 9 F mix aA bn (cM Z57.af) Tryz.func227
end Z58
namespace Z59
inductive Pt where
 | p0 (a:an) (b:Int)
def cF:Pt->List V
 | .p0 a b=>[.sl none 53 a,.int .i64 b]
def step (J:Pt->aC):Pt->aC
 | .p0 a b=>(cond (b<(a.length:Int)) (cond (b==0) (ck ((0:Int)<(a.length:Int)) (call (Z49.R (aY.at a 0)) fun v1=>(cond (!v1) (ret (b:Int)) (cond (b>0) (ck ((0:Int)<=(i64.wrap (b - 1))) (ck ((i64.wrap (b - 1))<(a.length:Int)) (m2 b (a.length:Int) (call (Z58.R ((aY.at a (toNat (i64.wrap (b - 1)))).aq,(aY.at a (toNat b)))) fun v2=>(cond (!v2) (ret (b:Int)) (J (.p0 a (i64.wrap (b+1))))))))) (J (.p0 a (i64.wrap (b+1)))))))) (cond (b>0) (ck ((0:Int)<=(i64.wrap (b - 1))) (ck ((i64.wrap (b - 1))<(a.length:Int)) (m2 b (a.length:Int) (call (Z58.R ((aY.at a (toNat (i64.wrap (b - 1)))).aq,(aY.at a (toNat b)))) fun v3=>(cond (!v3) (ret (b:Int)) (J (.p0 a (i64.wrap (b+1))))))))) (J (.p0 a (i64.wrap (b+1)))))) mG)
def start (J:Pt->aC)(x0:an):aC:=J (.p0 x0 0)
def live:Nat->Live:=gx [(2,iR [0,3])]
def md (a0:List aa):Int:=(dD (S:=Unit) (β:=Int) (fun i1 y1 s3=>(cond ((i1:Int)==0) (cond (!(Z49.md (a0.getD 0 aa.zero))) (.inr (i1)) (cond ((i1:Int)>0) (cond (!(Z58.md ((a0.getD (toNat (i64.wrap (i1 - 1))) aa.zero).aq) y1)) (.inr (i1)) (.inl ())) (.inl ()))) (cond ((i1:Int)>0) (cond (!(Z58.md ((a0.getD (toNat (i64.wrap (i1 - 1))) aa.zero).aq) y1)) (.inr (i1)) (.inl ())) (.inl ())))) (fun s3=>((-1):Int)) 0 a0 ())
def gd (a0:List aa):Prop:=(bf (2^21) (fun y:aa=>aa.Sm (2^21) y) a0)
def R:=RR gd md
def aj {a0}(h:gd a0):R (a0.map aa.row)=some (md a0):=cO h
def aK:=CN [pL 53] oI RT.dec R
def bn (a0)(H0:gd a0):∃n,start (iter step n) (a0.map aa.row)=ret (md a0):=by
 have Bh2:=bl H0
 refine ex_eq (cC (z:=aa.zero)) (dc fz ?_)
 refine bH (pt:=fun (i1:Nat) (s3:Unit)=>Pt.p0 (a0.map aa.row) (i1:Int)) (fun _ _=>True) (fun J i1 s3 h2 hih2=>?_) (fun s3 hih2=>?_) trivial
 ·simp only [step,SS]
  have:=(H0).1
  refine aP.yes dt (aP.bif (fun c4=>?_) (fun c4=>?_))
  ·refine aP.yes dt (cr (Z49.aj (bf.getD H0 (by omega))) ?_)
   refine aP.bif (fun c5=>aP.inr fz) (fun c5=>?_)
   refine aP.bif (fun c6=>?_) (fun c6=>?_)
   ·have dc6:=c6
    simp only [DC] at dc6
    refine aP.yes dt (aP.yes dt ?_)
    refine aP.yes bu (aP.yes (bK h2) ?_)
    refine cr (Z58.aj ⟨(bf.getD H0 (by (simp (disch:=omega) only [wi];omega))).1,(bf.getD H0 h2)⟩) (aP.bif (fun c7=>aP.inr fz) (fun c7=>?_))
    refine aP.inl trivial ?_
    rw [aF h2 Bh2]
   ·refine aP.inl trivial ?_
    rw [aF h2 Bh2]
  ·refine aP.bif (fun c8=>?_) (fun c8=>?_)
   ·have dc8:=c8
    simp only [DC] at dc8
    refine aP.yes dt (aP.yes dt ?_)
    refine aP.yes bu (aP.yes (bK h2) ?_)
    refine cr (Z58.aj ⟨(bf.getD H0 (by (simp (disch:=omega) only [wi];omega))).1,(bf.getD H0 h2)⟩) (aP.bif (fun c9=>aP.inr fz) (fun c9=>?_))
    refine aP.inl trivial ?_
    rw [aF h2 Bh2]
   ·refine aP.inl trivial ?_
    rw [aF h2 Bh2]
 ·simp only [step,SS]
  refine cH dn (⟨0,?_⟩)
  exact fz
def af:bZ 224 aK:=L1 38 (fun _=>2) cF (fun _=>[]) live step start mix aA bn (eS Z49.af Z58.af) Tryz.func224
end Z59
namespace Z60
def F (x0:an):aC:=(call (Z11.R (x0.length,1,12)) fun v1=>(cond v1 (call (Z59.R x0) fun v2=>ret ((decide (v2<0)))) (ret false)))
def md (a0:List aa):Bool:=(cond (Z11.md a0.length 1 12) ((decide ((Z59.md a0)<0))) false)
def gd (a0:List aa):Prop:=(bf (2^21) (fun y:aa=>aa.Sm (2^21) y) a0)
def R:=RR gd md
def aj {a0}(h:gd a0):R (a0.map aa.row)=some (md a0):=cO h
def aK:=CN [pL 53] oB RT.dec R
def bn (a0)(H0:gd a0):F (a0.map aa.row)=ret (md a0):=by
 unfold F md
 simp only [SS]
 refine ct (Z11.aj trivial) (bs (fun c1=>?_) (fun _=>rfl))
 exact ct (Z59.aj H0) fz
def af:bZ 132 aK:=W1 11 F mix aA bn (eS Z11.af Z59.af) Tryz.func132
def tr {a0:List aa}(h:md a0=true):1<=a0.length/\a0.length<=12:=by simp [md,Z11.md] at h;omega
def sY {l:List aa}(h:md l=true):∀i,i<l.length->Z36.md (l.getD i aa.zero).aq=true:=by
 intro i hi
 have h1:Z59.md l<0:=by
  unfold md at h
  cases hc:Z11.md (l.length:Int) 1 12<;>rw [hc] at h
  ·cases h
  ·simpa using h
 unfold Z59.md at h1
 have h2:=uP (z:=aa.zero) (by
  intro i x s b h
  revert h
  simp only [Bool.cond_eq_ite]
  repeat' split
  all_goals (intro h;first | (cases h;rfl) | cases h)) h1 i hi
 by_cases h0:i=0
 ·subst h0
  cases hf:Z49.md (l.getD 0 aa.zero)
  ·rw [hf] at h2;cases h2
  ·unfold Z49.md at hf
   cases hh:Z36.md (l.getD 0 aa.zero).aq
   ·rw [hh] at hf;cases hf
   ·rfl
 ·have e:((i:Int)==0)=false:=beq_eq_false_iff_ne.2 (by omega)
  have e2:decide ((i:Int)>0)=true:=by simpa using by omega
  simp only [e,e2,aU,aO] at h2
  cases hf:Z58.md ((l.getD (toNat (i64.wrap ((i:Int) - 1))) aa.zero).aq) (l.getD i aa.zero)
  ·rw [hf] at h2;cases h2
  ·unfold Z58.md Z57.md at hf
   cases hh:Z36.md (l.getD i aa.zero).aq
   ·rw [hh] at hf
    cases hp:Z36.md ((l.getD (toNat (i64.wrap ((i:Int) - 1))) aa.zero).aq)<;>rw [hp] at hf<;>cases hf
   ·rfl
def Ek {l:List aa}(h:md l=true):∀i,i<l.length->(l.getD i aa.zero).aq.aS=(l.getD 0 aa.zero).aq.aS:=by
 have hl:=tr h
 have h1:Z59.md l<0:=by
  unfold md at h
  cases hc:Z11.md (l.length:Int) 1 12<;>rw [hc] at h
  ·cases h
  ·simpa using h
 unfold Z59.md at h1
 have h2:=uP (z:=aa.zero) (by
  intro i x s b h
  revert h
  simp only [Bool.cond_eq_ite]
  repeat' split
  all_goals (intro h;first | (cases h;rfl) | cases h)) h1
 intro i
 induction i with
 | zero=>intro _;rfl
 | succ i ih=>
  intro hi
  have h3:=h2 (i+1) hi
  have e:(((i+1:Nat):Int)==0)=false:=beq_eq_false_iff_ne.2 (by omega)
  have e2:decide (((i+1:Nat):Int)>0)=true:=by simpa using by omega
  have ei:toNat (i64.wrap (((i+1:Nat):Int) - 1))=i:=by simp (disch:=omega) only [wi];omega
  simp only [e,e2,aU,aO] at h3
  rw [ei] at h3
  cases hf:Z58.md ((l.getD i aa.zero).aq) (l.getD (i+1) aa.zero)
  ·rw [hf] at h3;cases h3
  ·unfold Z58.md Z57.md at hf
   cases hz:((l.getD (i+1) aa.zero).aq.aS != (l.getD i aa.zero).aq.aS)
   ·rw [<-ih (by omega)];exact (by simpa using hz)
   ·rw [hz] at hf
    cases hp:Z36.md (l.getD i aa.zero).aq<;>rw [hp] at hf
    ·cases hf
    ·cases hh:Z36.md (l.getD (i+1) aa.zero).aq<;>rw [hh] at hf<;>cases hf
end Z60
namespace Z61
def F (x0:an):aC:=(call (Z60.R x0) fun v1=>(cond (!v1) (ret (((⟨0,0,0,0,0,0,0,0,(⟨[],0⟩),(⟨[],0⟩),0,(⟨[],0⟩),false⟩),false):bL×Bool)) (ck ((0:Int)<=(i64.wrap (x0.length - 1))) (ck ((i64.wrap (x0.length - 1))<x0.length) (call (Z38.R ((aY.at x0 (toNat (i64.wrap (x0.length - 1)))).aq)) fun v2=>ret ((v2,true):bL×Bool))))))
def md (a0:List aa):au×Bool:=(cond (!(Z60.md a0)) ((⟨0,0,0,0,0,0,0,0,(⟨[],0⟩),(⟨[],0⟩),0,(⟨[],0⟩),false⟩),false) (((a0.getD (toNat (i64.wrap (a0.length - 1))) aa.zero).aq),true))
def gd (a0:List aa):Prop:=(bf (2^21) (fun y:aa=>aa.Sm (2^21) y) a0)
def R:=RR gd md
def aj {a0}(h:gd a0):R (a0.map aa.row)=some ((au.r (md a0).1),(md a0).2):=cO h
def aK:=CN [pL 53] (.gS [(true,f50),(false,[fB])]) RT.dec R
def bn (a0)(H0:gd a0):F (a0.map aa.row)=ret ((au.r (md a0).1),(md a0).2):=by
 unfold F md
 simp only [SS]
 refine ct (Z60.aj H0) (bP (fun b:au×Bool=>ret (((au.r b.1),b.2):bL×Bool)) (fun c1=>fz) (fun c1=>?_))
 have tc1:=Z60.tr (by simpa using c1)
 refine aG dt (aG dt ?_)
 exact ct (Z38.aj (bf.getD H0 (by (simp (disch:=omega) only [wi];omega))).1) fz
def af:bZ 36 aK:=W1 16 F mix aA bn (eS Z60.af Z38.af) Tryz.func36
def fc {a0:List aa}(hg:gd a0):au.Sm (2^21) ((md a0).1):=by
 unfold gd at hg;unfold md
 cases h:Z60.md a0
 ·exact ⟨bf.nil,bf.nil,bf.nil⟩
 ·have:=Z60.tr h
  exact (bf.getD hg (by simp (disch:=omega) only [Go.IntWalk.i64_in];omega)).1
def head {l:List aa}(h:(md l).2=true):Z60.md l=true/\(md l).1=(l.getD (l.length - 1) aa.zero).aq/\Z36.md (md l).1=true:=by
 unfold md at h ⊢
 cases hc:Z60.md l
 ·rw [hc] at h;cases h
 ·have hl:=Z60.tr hc
  have hw:toNat (i64.wrap ((l.length:Int) - 1))=l.length - 1:=by
   rw [Go.IntWalk.i64_in _ (by omega)];omega
  simp only [Bool.not_true,aU,hw]
  exact ⟨trivial,trivial,Z60.sY hc _ (by omega)⟩
end Z61
namespace Z62
def F (x0:Int)(x1:an):aC:=(call (Z15.R x1) fun v1=>(cond v1 (call (Z32.R x1) fun v2=>ret ((v2==x0))) (ret false)))
def md (a0:Int)(a1:List ah):Bool:=(cond (Z15.md a1) (((Z32.md a1)==a0)) false)
def gd (a0:Int)(a1:List ah):Prop:=(bf (2^21) (fun y:ah=>ah.Sm (2^21) y) a1)
def R:=cL gd md
def aj {a0 a1}(h:gd a0 a1):R (a0,(a1.map ah.row))=some (md a0 a1):=cK h
def aK:=CN [pI,pL 62] oB RT.dec R
def bn (a0)(a1)(H1:gd a0 a1):F a0 (a1.map ah.row)=ret (md a0 a1):=by
 refine ct (Z15.aj H1) (bs (fun c1=>?_) (fun _=>rfl))
 exact ct (Z32.aj H1) fz
def af:bZ 304 aK:=W2 13 F mix aA bn (eS Z15.af Z32.af) Tryz.func304
end Z62
namespace Z63
def F (x0:bT):aC:=(call (Z61.R x0.aD) fun v1=>(cond v1.2 (cond (v1.1.cj==x0.bI.length) (call (Z62.R (v1.1.dx,x0.bI)) fun v2=>ret v2) (ret false)) (ret false)))
def md (a0:aI):Bool:=(cond ((Z61.md a0.aD).2) (cond ((Z61.md a0.aD).1.cj==a0.bI.length) ((Z62.md ((Z61.md a0.aD).1.dx) a0.bI)) false) false)
def gd (a0:aI):Prop:=(aI.Sm (2^21) a0)
def R:=RR gd md
def aj {a0}(h:gd a0):R (aI.r a0)=some (md a0):=cO h
def aK:=CN [.agg sj] oB RT.dec R
def bn (a0)(H0:gd a0):F (aI.r a0)=ret (md a0):=by
 refine ct (Z61.aj H0.1) ?_
 simp only [SS]
 refine bs (fun c1=>?_) (fun _=>rfl)
 refine bs (fun c2=>?_) (fun _=>rfl)
 exact ct (Z62.aj H0.2) fz
def af:bZ 231 aK:=W1 27 F mix aA bn (eS Z61.af Z62.af) Tryz.func231
end Z63
namespace Z64
def F (x0:bT):aC:=(call (Z61.R x0.aD) fun v1=>(call (Z63.R x0) fun v2=>(cond (!v2) mG (ret v1.1.aS))))
def md (a0:aI):Int:=(cond (!(Z63.md a0)) ((-1):Int) ((Z61.md a0.aD).1.aS))
def gd (a0:aI):Prop:=(aI.Sm (2^21) a0)
def R:=RR gd md
def aj {a0}(h:gd a0):R (aI.r a0)=some (md a0):=cO h
def aK:=CN [.agg sj] oI RT.dec R
def bn (a0)(H0:gd a0):F (aI.r a0)=ret (md a0):=by
 refine ct (Z61.aj H0.1) (ct (Z63.aj H0) ?_)
 refine bs (fun _=>rfl) (fun c1=>?_)
 exact fz
def af:bZ 144 aK:=W1 16 F mix aA bn (eS Z61.af Z63.af) Tryz.func144
end Z64
namespace Z65
def F (x0:az)(x1:Int):aC:=ret ((⟨x0,2,x1,[]⟩):bp)
def md (a0:az)(a1:Int):ah:=(⟨a0,2,a1,[]⟩)
def gd (a0:az)(a1:Int):Prop:=True
def R:=cL gd md
def aj {a0 a1}(h:gd a0 a1):R (a0,a1)=some (ah.r (md a0 a1)):=cK h
def aK:=CN [pS,pI] (.agg f62) RT.dec R
def bn (a0)(a1)(hg:gd a0 a1):F a0 a1=ret (ah.r (md a0 a1)):=fz
def af:bZ 274 aK:=W2 8 F mix aA bn .nil Tryz.func274
end Z65
namespace Z66
def F (x0:az)(x1:Int)(x2:an):aC:=(call (Z9.R x2) fun v1=>ret ((⟨x0,3,x1,v1⟩):bp))
def md (a0:az)(a1:Int)(a2:List az):ah:=(⟨a0,3,a1,a2⟩)
def gd (a0:az)(a1:Int)(a2:List az):Prop:=(bf (2^21) (fun y:az=>y.size<=(2^21)) a2)
def R:=lY gd md
def aj {a0 a1 a2}(h:gd a0 a1 a2):R (a0,a1,(a2.map dO))=some (ah.r (md a0 a1 a2)):=lV h
def aK:=CN [pS,pI,pL 9] (.agg f62) RT.dec R
def bn (a0)(a1)(a2)(H2:gd a0 a1 a2):F a0 a1 (a2.map dO)=ret (ah.r (md a0 a1 a2)):=ct (Z9.aj H2) fz
def af:bZ 275 aK:=W3 12 F mix aA bn (cM Z9.af) Tryz.func275
end Z66
namespace Z67
def F (x0:an)(x1 x2 x3:Int):aC:=(call (Z4.R (x0,x1,x2,x3)) fun v1=>ret ((Hl.mk,v1.2.1,v1.2.2.1,(v1.2.2.2==0)):Hl×Int×Int×Bool))
abbrev eI:List K:=[.sl 5,aE,aE]
def pats:List (Option fE):=[none,some (.rd (.int .i64))]
def res:RP:=.one (.rd (.bool))
abbrev E:Env:={ T:=assoc mq,G:=cW [],nt:=9,M:=eW [],np:=(nC eI),mt:=false,I:=gp [(139,Z4.ic (nC eI))] }
def run_eq (n:Nat)(ls:List L):eV E (fun _=>[]) Tryz.f142 (.cur eI res.parts) n (iI eI pats ls)=F (eM ls) (cI 1 ls) (cI 2 ls) (cI 3 ls):=by kernel_rfl
def gd (x0:an)(x1 x2 x3:Int):Prop:=CI x0 x1
def post (x0:an)(x1 x2 x3:Int)(y:Hl×Int×Int×Bool):Prop:=CI x0 y.2.1
def wp (x0:an)(x1 x2 x3:Int)(hg:gd x0 x1 x2 x3):Wp (F x0 x1 x2 x3) (post x0 x1 x2 x3):=by
 unfold F
 exact Z4.ep hg (fun v hv=>wp_ret hv.1)
def R:(an×Int×Int×Int)->Option (Hl×Int×Int×Bool):=RQ (fun _ x=>F x.1 x.2.1 x.2.2.1 x.2.2.2) (fun x=>post x.1 x.2.1 x.2.2.1 x.2.2.2)
def ep {x0:an}{x1 x2 x3:Int}{γ:Type}[RT γ]{k:(Hl×Int×Int×Bool)->aC}{Q:γ->Prop}(hg:gd x0 x1 x2 x3)(hk:∀y,post x0 x1 x2 x3 y->Wp (k y) Q):Wp (call (R (x0,x1,x2,x3)) k) Q:=fN ⟨0,wp x0 x1 x2 x3 hg⟩ hk
def acc (ls:List L):an×Int×Int×Int:=((eM ls),(cI 1 ls),(cI 2 ls),(cI 3 ls))
def aK:jX:=CC eI pats res acc R
def af:gL Tryz.prog Ev 142 aK:=VC (live:=(fun _=>[])) (mt:=false) mix aA .nil .nil (.cons (Z4.bM (nC eI)) .nil) Tryz.func142 (by kernel_rfl) run_eq
def ic (_:Nat):gy:=kg Ev aK
def bM (n:Nat):dY Tryz.prog Ev n 142 (ic n):=eY af
end Z67
namespace Z68
abbrev E (n:Nat):Env:={ T:=assoc mq,G:=cW [(298,Z36.aK)],nt:=9,M:=eW [],np:=n,I:=gp [] }
def ic (n:Nat):gy:=inl (E n) Tryz.f389
def bM (n:Nat):dY Tryz.prog Ev n 389 (ic n):=yp (mt:=false) mix aA (cM Z36.af) .nil .nil Tryz.func389 (by kernel_rfl)
end Z68
namespace Z69
def F (x0:bL)(x1 x2 x3:Int):aC:=(call (Z36.R x0) fun v1=>(cond (!v1) (ret (((⟨0,0,0,0,0,0,0,0,(⟨[],0⟩),(⟨[],0⟩),0,(⟨[],0⟩),false⟩),false):bL×Bool)) (call (Z11.R (x2,x0.cg,100000)) fun v2=>(cond (!v2) (ret (((⟨0,0,0,0,0,0,0,0,(⟨[],0⟩),(⟨[],0⟩),0,(⟨[],0⟩),false⟩),false):bL×Bool)) (call (Z11.R (x3,0,200)) fun v3=>(cond (!v3) (ret (((⟨0,0,0,0,0,0,0,0,(⟨[],0⟩),(⟨[],0⟩),0,(⟨[],0⟩),false⟩),false):bL×Bool)) (call (Z38.R x0) fun v4=>(call (Z50.R x0) fun v5=>(call (Z36.R (⟨v4.aS,(i64.wrap (x0.cy+1)),x1,x2,(i64.wrap (x2+x3)),v4.cj,v4.dx,v5,v4.bU,v4.bF,v4.cT,v4.bB,v4.bk⟩)) fun v6=>(cond (!v6) (ret (((⟨0,0,0,0,0,0,0,0,(⟨[],0⟩),(⟨[],0⟩),0,(⟨[],0⟩),false⟩),false):bL×Bool)) (ret (((⟨v4.aS,(i64.wrap (x0.cy+1)),x1,x2,(i64.wrap (x2+x3)),v4.cj,v4.dx,v5,v4.bU,v4.bF,v4.cT,v4.bB,v4.bk⟩),true):bL×Bool))))))))))))
def pats:List fE:=[.agg [aE,aE,aE,aE,aE,aE,aE,aE,.sl 3,aE,.sl 3,aE,aE,.sl 3,aE,.bool],.rd (.int .i64),.rd (.int .i64),.rd (.int .i64)]
def res:RP:=.gS [(true,[.rd (.int .i64),.rd (.int .i64),.rd (.int .i64),.rd (.int .i64),.rd (.int .i64),.rd (.int .i64),.rd (.int .i64),.rd (.int .i64),.fr 3,.rd (.int .i64),.fr 3,.rd (.int .i64),.rd (.int .i64),.fr 3,.rd (.int .i64),.rd (.bool)]),(false,[.rd (.bool)])]
abbrev E:Env:={ T:=assoc mq,G:=cW [(298,Z36.aK),(190,Z11.aK),(157,Z38.aK),(369,Z50.aK)],nt:=48,M:=eW [],I:=gp [(389,Z68.ic 0)] }
def run_eq (n:Nat)(ls:List L):eV E (fun _=>[]) Tryz.f388 res n (dy pats ls)=F (bL.dec ls) (cI 16 ls) (cI 17 ls) (cI 18 ls):=by kernel_rfl
def md (a0:au)(a1 a2 a3:Int):au×Bool:=(cond (!(Z36.md a0)) ((⟨0,0,0,0,0,0,0,0,(⟨[],0⟩),(⟨[],0⟩),0,(⟨[],0⟩),false⟩),false) (cond (!(Z11.md a2 a0.cg 100000)) ((⟨0,0,0,0,0,0,0,0,(⟨[],0⟩),(⟨[],0⟩),0,(⟨[],0⟩),false⟩),false) (cond (!(Z11.md a3 0 200)) ((⟨0,0,0,0,0,0,0,0,(⟨[],0⟩),(⟨[],0⟩),0,(⟨[],0⟩),false⟩),false) (cond (!(Z36.md (⟨a0.aS,(i64.wrap (a0.cy+1)),a1,a2,(i64.wrap (a2+a3)),a0.cj,a0.dx,(Z50.md a0),a0.bU,a0.bF,a0.cT,a0.bB,a0.bk⟩))) ((⟨0,0,0,0,0,0,0,0,(⟨[],0⟩),(⟨[],0⟩),0,(⟨[],0⟩),false⟩),false) ((⟨a0.aS,(i64.wrap (a0.cy+1)),a1,a2,(i64.wrap (a2+a3)),a0.cj,a0.dx,(Z50.md a0),a0.bU,a0.bF,a0.cT,a0.bB,a0.bk⟩),true)))))
def gd (a0:au)(a1 a2 a3:Int):Prop:=(au.Sm (2^21) a0)
def acc (ls:List L):bL×Int×Int×Int:=((bL.dec ls),(cI 16 ls),(cI 17 ls),(cI 18 ls))
def R:(bL×Int×Int×Int)->Option (bL×Bool):=tI gd md
def aj {a0 a1 a2 a3}(h:gd a0 a1 a2 a3):R ((au.r a0),a1,a2,a3)=some ((au.r (md a0 a1 a2 a3).1),(md a0 a1 a2 a3).2):=sH h
def aK:gu:=CN pats res acc R
def bn (a0:au)(a1 a2 a3:Int)(H0:gd a0 a1 a2 a3):F (au.r a0) a1 a2 a3=ret (((au.r (md a0 a1 a2 a3).1),(md a0 a1 a2 a3).2):bL×Bool):=by
 refine ct (Z36.aj H0) (bP (fun b:au×Bool=>ret (((au.r b.1),b.2):bL×Bool)) (fun c1=>fz) (fun c1=>?_))
 refine ct (Z11.aj trivial) (bP (fun b:au×Bool=>ret (((au.r b.1),b.2):bL×Bool)) (fun c2=>fz) (fun c2=>?_))
 refine ct (Z11.aj trivial) (bP (fun b:au×Bool=>ret (((au.r b.1),b.2):bL×Bool)) (fun c3=>fz) (fun c3=>?_))
 refine ct (Z38.aj H0) (ct (Z50.aj H0) ?_)
 exact ct (Z36.aj (a0:=(⟨a0.aS,(i64.wrap (a0.cy+1)),a1,a2,(i64.wrap (a2+a3)),a0.cj,a0.dx,(Z50.md a0),a0.bU,a0.bF,a0.cT,a0.bB,a0.bk⟩:au)) ⟨H0.1,H0.2.1,H0.2.2⟩) (bP (fun b:au×Bool=>ret (((au.r b.1),b.2):bL×Bool)) (fun c4=>fz) (fun c4=>fz))
def af:bZ 388 aK:=VI (mt:=false) (run:=fun _ x=>F x.1 x.2.1 x.2.2.1 x.2.2.2) mix aA (nQ Z36.af Z11.af Z38.af Z50.af) .nil (.cons (Z68.bM 0) .nil) Tryz.func388 (by kernel_rfl) run_eq (fun _ a _ _ hg=>⟨0,bn a.1 a.2.1 a.2.2.1 a.2.2.2 hg⟩)
def fc {a0:au}{a1 a2 a3:Int}(hg:gd a0 a1 a2 a3):au.Sm (2^21) ((md a0 a1 a2 a3).1):=by
 unfold md
 simp only [Bool.cond_eq_ite]
 repeat' split
 all_goals first | exact ⟨bf.nil,bf.nil,bf.nil⟩ | exact ⟨hg.1,hg.2.1,hg.2.2⟩
end Z69
namespace Z70
def F (x0:bL)(x1:an)(x2 x3:Int):aC:=(call (Z69.R (x0,1,x2,x3)) fun v1=>(cond (!v1.2) (ret (((⟨0,0,0,0,0,0,0,0,(⟨[],0⟩),(⟨[],0⟩),0,(⟨[],0⟩),false⟩),false):bL×Bool)) (call (Z15.R x1) fun v2=>(cond (!v2) (ret (((⟨0,0,0,0,0,0,0,0,(⟨[],0⟩),(⟨[],0⟩),0,(⟨[],0⟩),false⟩),false):bL×Bool)) (call (Z32.R x1) fun v3=>(call (Z36.R (⟨v1.1.aS,v1.1.cy,v1.1.bE,v1.1.cg,v1.1.cq,x1.length,v3,v1.1.dX,v1.1.bU,v1.1.bF,v1.1.cT,v1.1.bB,v1.1.bk⟩)) fun v4=>(cond (!v4) (ret (((⟨0,0,0,0,0,0,0,0,(⟨[],0⟩),(⟨[],0⟩),0,(⟨[],0⟩),false⟩),false):bL×Bool)) (ret (((⟨v1.1.aS,v1.1.cy,v1.1.bE,v1.1.cg,v1.1.cq,x1.length,v3,v1.1.dX,v1.1.bU,v1.1.bF,v1.1.cT,v1.1.bB,v1.1.bk⟩),true):bL×Bool)))))))))
def pats:List fE:=[.agg [aE,aE,aE,aE,aE,aE,aE,aE,.sl 3,aE,.sl 3,aE,aE,.sl 3,aE,.bool],.rd (.sl 62),.rd (.int .i64),.rd (.int .i64)]
def res:RP:=.gS [(true,[.rd (.int .i64),.rd (.int .i64),.rd (.int .i64),.rd (.int .i64),.rd (.int .i64),.rd (.int .i64),.rd (.int .i64),.rd (.int .i64),.fr 3,.rd (.int .i64),.fr 3,.rd (.int .i64),.rd (.int .i64),.fr 3,.rd (.int .i64),.rd (.bool)]),(false,[.rd (.bool)])]
abbrev E:Env:={ T:=assoc mq,G:=cW [(388,Z69.aK),(307,Z15.aK),(320,Z32.aK)],nt:=37,M:=eW [],I:=gp [(389,Z68.ic 0)] }
def run_eq (n:Nat)(ls:List L):eV E (fun _=>[]) Tryz.f330 res n (dy pats ls)=F (bL.dec ls) (fJ 16 ls) (cI 17 ls) (cI 18 ls):=by kernel_rfl
def md (a0:au)(a1:List ah)(a2 a3:Int):au×Bool:=(cond (!(Z69.md a0 1 a2 a3).2) ((⟨0,0,0,0,0,0,0,0,(⟨[],0⟩),(⟨[],0⟩),0,(⟨[],0⟩),false⟩),false) (cond (!(Z15.md a1)) ((⟨0,0,0,0,0,0,0,0,(⟨[],0⟩),(⟨[],0⟩),0,(⟨[],0⟩),false⟩),false) (cond (!(Z36.md (⟨(Z69.md a0 1 a2 a3).1.aS,(Z69.md a0 1 a2 a3).1.cy,(Z69.md a0 1 a2 a3).1.bE,(Z69.md a0 1 a2 a3).1.cg,(Z69.md a0 1 a2 a3).1.cq,a1.length,(Z32.md a1),(Z69.md a0 1 a2 a3).1.dX,(Z69.md a0 1 a2 a3).1.bU,(Z69.md a0 1 a2 a3).1.bF,(Z69.md a0 1 a2 a3).1.cT,(Z69.md a0 1 a2 a3).1.bB,(Z69.md a0 1 a2 a3).1.bk⟩))) ((⟨0,0,0,0,0,0,0,0,(⟨[],0⟩),(⟨[],0⟩),0,(⟨[],0⟩),false⟩),false) ((⟨(Z69.md a0 1 a2 a3).1.aS,(Z69.md a0 1 a2 a3).1.cy,(Z69.md a0 1 a2 a3).1.bE,(Z69.md a0 1 a2 a3).1.cg,(Z69.md a0 1 a2 a3).1.cq,a1.length,(Z32.md a1),(Z69.md a0 1 a2 a3).1.dX,(Z69.md a0 1 a2 a3).1.bU,(Z69.md a0 1 a2 a3).1.bF,(Z69.md a0 1 a2 a3).1.cT,(Z69.md a0 1 a2 a3).1.bB,(Z69.md a0 1 a2 a3).1.bk⟩),true))))
def gd (a0:au)(a1:List ah)(a2 a3:Int):Prop:=(au.Sm (2^21) a0)/\(bf (2^21) (fun y:ah=>ah.Sm (2^21) y) a1)
def acc (ls:List L):bL×an×Int×Int:=((bL.dec ls),(fJ 16 ls),(cI 17 ls),(cI 18 ls))
def R:(bL×an×Int×Int)->Option (bL×Bool):=tI gd md
def aj {a0 a1 a2 a3}(h:gd a0 a1 a2 a3):R ((au.r a0),(a1.map ah.row),a2,a3)=some ((au.r (md a0 a1 a2 a3).1),(md a0 a1 a2 a3).2):=sH h
def aK:gu:=CN pats res acc R
def bn (a0:au)(a1:List ah)(a2 a3:Int)(hg:gd a0 a1 a2 a3):F (au.r a0) (a1.map ah.row) a2 a3=ret (((au.r (md a0 a1 a2 a3).1),(md a0 a1 a2 a3).2):bL×Bool):=by
 obtain ⟨H0,H1⟩:=hg
 refine ct (Z69.aj H0) ?_
 simp only [SS]
 refine bP (fun b:au×Bool=>ret (((au.r b.1),b.2):bL×Bool)) (fun c1=>fz) (fun c1=>?_)
 refine ct (Z15.aj H1) (bP (fun b:au×Bool=>ret (((au.r b.1),b.2):bL×Bool)) (fun c2=>fz) (fun c2=>?_))
 refine ct (Z32.aj H1) ?_
 have h2:=Z36.aj (a0:=(⟨(Z69.md a0 1 a2 a3).1.aS,(Z69.md a0 1 a2 a3).1.cy,(Z69.md a0 1 a2 a3).1.bE,(Z69.md a0 1 a2 a3).1.cg,(Z69.md a0 1 a2 a3).1.cq,(a1.length:Int),(Z32.md a1),(Z69.md a0 1 a2 a3).1.dX,(Z69.md a0 1 a2 a3).1.bU,(Z69.md a0 1 a2 a3).1.bF,(Z69.md a0 1 a2 a3).1.cT,(Z69.md a0 1 a2 a3).1.bB,(Z69.md a0 1 a2 a3).1.bk⟩:au)) ⟨(Z69.fc H0).1,(Z69.fc H0).2.1,(Z69.fc H0).2.2⟩
 simp only [au.r] at h2 ⊢
 refine ct h2 (bP (fun b:au×Bool=>ret (((au.r b.1),b.2):bL×Bool)) (fun c3=>fz) (fun c3=>?_))
 simp only [au.r]
def af:bZ 330 aK:=VI (mt:=false) (run:=fun _ x=>F x.1 x.2.1 x.2.2.1 x.2.2.2) mix aA (jw Z69.af Z15.af Z32.af) .nil (.cons (Z68.bM 0) .nil) Tryz.func330 (by kernel_rfl) run_eq (fun _ a _ _ hg=>⟨0,bn a.1 a.2.1 a.2.2.1 a.2.2.2 hg⟩)
def fc {a0:au}{a1:List ah}{a2 a3:Int}(hg:gd a0 a1 a2 a3):au.Sm (2^21) ((md a0 a1 a2 a3).1):=by
 have h1:=Z69.fc (a1:=1) (a2:=a2) (a3:=a3) hg.1
 unfold md
 simp only [Bool.cond_eq_ite]
 repeat' split
 all_goals first | exact ⟨bf.nil,bf.nil,bf.nil⟩ | exact ⟨h1.1,h1.2.1,h1.2.2⟩
end Z70
namespace Z71
def F (x0:aY):aC:=(call (Z38.R x0.aq) fun v1=>(ck (eG (x0.dR.length*16)) (ret ((⟨v1,x0.dR⟩):aY))))
def md (a0:aa):aa:=a0
def gd (a0:aa):Prop:=(aa.Sm (2^21) a0)
def R:=RR gd md
def aj {a0}(h:gd a0):R (aa.r a0)=some (aa.r a0):=cO h
def aK:=CN [.agg we] (.agg f53) RT.dec R
def bn (a0)(H0:gd a0):F (aa.r a0)=ret (aa.r (md a0)):=by
 refine ct (Z38.aj H0.1) ?_
 simp only [SS]
 exact aG (have:=(H0.2).1;lm) fz
def af:bZ 215 aK:=W1 11 F mix aA bn (cM Z38.af) Tryz.func215
end Z71
namespace Z72
inductive Pt where
 | p0 (a:an) (b:Int) (c:an)
def cF:Pt->List V
 | .p0 a b c=>[.sl none 53 a,.own 0,.int .i64 b]
def dN:Pt->List aL
 | .p0 a b c=>[.row 53 c]
def step (J:Pt->aC):Pt->aC
 | .p0 a b c=>(cond (b<(a.length:Int)) (m2 b (a.length:Int) (call (Z71.R (aY.at a (toNat b))) fun v1=>(ck (eG (((c.length:Int)+1)*200)) (J (.p0 a (i64.wrap (b+1)) (c++[(aY.enc v1)])))))) (ret (c:an)))
def start (J:Pt->aC)(x0:an):aC:=J (.p0 x0 0 [])
def live:Nat->Live:=gx [(3,[(0,none),(3,some 53),(4,none)])]
def md (a0:List aa):List aa:=a0
def gd (a0:List aa):Prop:=(bf (2^21) (fun y:aa=>aa.Sm (2^21) y) a0)
def R:=RR gd md
def aj {a0}(h:gd a0):R (a0.map aa.row)=some (a0.map aa.row):=cO h
def aK:=CN [pL 53] (oL 53) RT.dec R
def bn (a0)(H0:gd a0):∃n,start (iter step n) (a0.map aa.row)=ret ((md a0).map aa.row):=by
 have Bh2:=bl H0
 refine ex_eq (out:=(fun b:List aa=>ret ((b.map aa.row):an))) (gW (xs:=a0) (z:=aa.zero) (t:=fun s3:List aa=>s3)) (dc fz ?_)
 refine bH (pt:=fun (i1:Nat) (s3:List aa)=>Pt.p0 (a0.map aa.row) (i1:Int) (s3.map aa.row)) (s:=([]:List aa)) (out:=(fun b:List aa=>ret ((b.map aa.row):an))) (fun (i1:Nat) (s3:List aa)=>s3.length<=([]:List Int).length+1*i1) (fun J i1 s3 h2 hih2=>?_) (fun s3 hih2=>?_) (by simp)
 ·simp only [step,SS]
  have gr_:=hih2
  simp only [LN] at gr_
  have:=(H0).1
  refine aP.yes dt (aP.yes bu ?_)
  refine aP.yes (bK h2) (cr (Z71.aj (bf.getD H0 h2)) ?_)
  refine aP.yes lm ?_
  refine aP.inl (by
    (simp;omega)) ?_
  rw [aF h2 Bh2]
  exact fz
 ·simp only [step,SS]
  refine cH dn (⟨0,?_⟩)
  exact fz
def af:bZ 121 aK:=L1 21 (fun _=>3) cF dN live step start mix aA bn (cM Z71.af) Tryz.func121
end Z72
namespace Z73
def F (x0:bT):aC:=(call (Z72.R x0.aD) fun v1=>(call (Z16.R x0.bI) fun v2=>ret ((⟨v1,v2⟩):bT)))
def md (a0:aI):aI:=a0
def gd (a0:aI):Prop:=(aI.Sm (2^21) a0)
def R:=RR gd md
def aj {a0}(h:gd a0):R (aI.r a0)=some (aI.r a0):=cO h
def aK:=CN [.agg sj] (.agg f188) RT.dec R
def bn (a0)(H0:gd a0):F (aI.r a0)=ret (aI.r (md a0)):=by
 refine ct (Z72.aj H0.1) (ct (Z16.aj H0.2) ?_)
 exact fz
def af:bZ 328 aK:=W1 10 F mix aA bn (eS Z72.af Z16.af) Tryz.func328
end Z73
namespace Z74
def F (x0 x1:bL)(x2:an):aC:=(cond (x1.bE==2) (call (Z44.R (x2,x0.bF,x1)) fun v1=>ret v1) (cond (x1.bE==3) (call (Z44.R (x2,x0.bB,x1)) fun v2=>ret v2) (call (Z44.R (x2,x0.bU,x1)) fun v3=>ret v3)))
def md (a0 a1:au)(a2:List Int):aa:=(cond (a1.bE==2) (Z44.md a2 a0.bF a1) (cond (a1.bE==3) (Z44.md a2 a0.bB a1) (Z44.md a2 a0.bU a1)))
def gd (a0 a1:au)(a2:List Int):Prop:=(au.Sm (2^21) a0)/\(au.Sm (2^21) a1)/\(bf (2^38) (fun y:Int=>True) a2)
def R:=lY gd md
def aj {a0 a1 a2}(h:gd a0 a1 a2):R ((au.r a0),(au.r a1),(a2.map aQ))=some (aa.r (md a0 a1 a2)):=lV h
def aK:=CN [.agg lC,.agg lC,pL 3] (.agg f53) RT.dec R
def bn (a0)(a1)(a2)(hg:gd a0 a1 a2):F (au.r a0) (au.r a1) (a2.map aQ)=ret (aa.r (md a0 a1 a2)):=by
 obtain ⟨H0,H1,H2⟩:=hg
 refine bo (fun c1=>ct (Z44.aj ⟨H2,H0.2.1,H1⟩) fz) (fun c1=>?_)
 exact bo (fun c2=>ct (Z44.aj ⟨H2,H0.2.2,H1⟩) fz) (fun c2=>ct (Z44.aj ⟨H2,H0.1,H1⟩) fz)
def af:bZ 332 aK:=W3 28 F mix aA bn (cM Z44.af) Tryz.func332
def fc {a0 a1:au}{a2:List Int}(hg:gd a0 a1 a2):aa.Sm (2^21) (md a0 a1 a2):=by
 unfold gd at hg;unfold md
 simp only [Bool.cond_eq_ite]
 repeat' split
 ·exact Z44.fc ⟨hg.2.2,hg.1.2.1,hg.2.1⟩
 ·exact Z44.fc ⟨hg.2.2,hg.1.2.2,hg.2.1⟩
 ·exact Z44.fc ⟨hg.2.2,hg.1.1,hg.2.1⟩
end Z74
namespace Z75
def F (x0:an)(x1:aY):aC:=(call (Z61.R x0) fun v1=>(cond (!v1.2) (call (Z72.R x0) fun v2=>ret ((v2,2):an×Int)) (cond ((x0.length:Int)>=12) (call (Z72.R x0) fun v3=>ret ((v3,2):an×Int)) (call (Z57.R (v1.1,x1)) fun v4=>(cond (v4 != 1) (call (Z72.R x0) fun v5=>ret ((v5,v4):an×Int)) (call (Z72.R x0) fun v6=>(call (Z71.R x1) fun v7=>(ck (eG ((v6.length+1)*200)) (ret (((v6++[(aY.enc v7)]),1):an×Int))))))))))
def md (a0:List aa)(a1:aa):List aa×Int:=(cond (!(Z61.md a0).2) (a0,2) (cond ((a0.length:Int)>=12) (a0,2) (cond ((Z57.md ((Z61.md a0).1) a1) != 1) (a0,(Z57.md ((Z61.md a0).1) a1)) ((a0++[a1]),1))))
def gd (a0:List aa)(a1:aa):Prop:=(bf (2^21) (fun y:aa=>aa.Sm (2^21) y) a0)/\(aa.Sm (2^21) a1)
def R:=cL gd md
def aj {a0 a1}(h:gd a0 a1):R ((a0.map aa.row),(aa.r a1))=some (((md a0 a1).1.map aa.row),(md a0 a1).2):=cK h
def aK:=CN [pL 53,.agg we] (.gS [(false,[.fr 53]),(false,[fI])]) RT.dec R
def bn (a0)(a1)(hg:gd a0 a1):F (a0.map aa.row) (aa.r a1)=ret (((md a0 a1).1.map aa.row),(md a0 a1).2):=by
 obtain ⟨H0,H1⟩:=hg
 refine ct (Z61.aj H0) ?_
 simp only [SS]
 refine bP (fun b:List aa×Int=>ret (((b.1.map aa.row),b.2):an×Int)) (fun c1=>ct (Z72.aj H0) fz) (fun c1=>?_)
 refine bP (fun b:List aa×Int=>ret (((b.1.map aa.row),b.2):an×Int)) (fun c2=>ct (Z72.aj H0) fz) (fun c2=>?_)
 have dc2:=c2
 simp only [DC] at dc2
 refine ct (Z57.aj ⟨(Z61.fc H0),H1⟩) (bP (fun b:List aa×Int=>ret (((b.1.map aa.row),b.2):an×Int)) (fun c3=>ct (Z72.aj H0) fz) (fun c3=>?_))
 refine ct (Z72.aj H0) (ct (Z71.aj H1) ?_)
 exact aG lm fz
def af:bZ 331 aK:=W2 37 F mix aA bn (nQ Z61.af Z72.af Z57.af Z71.af) Tryz.func331
def fc {a0:List aa}{a1:aa}(hg:gd a0 a1):bf (2^21) (fun y:aa=>aa.Sm (2^21) y) ((md a0 a1).1):=by
 unfold gd at hg;unfold md
 simp only [Bool.cond_eq_ite]
 repeat' split
 all_goals first | exact hg.1 | skip
 rename_i h1 h2 h3
 have h2:¬((a0.length:Int)>=12):=by simpa using h2
 exact ⟨by simp;omega,fun x hx=>(List.mem_append.1 hx).elim (hg.1.2 x) (fun h=>by simp at h;subst h;exact hg.2)⟩
def Ef (a0:List aa)(a1:aa):(md a0 a1).1=a0∨(md a0 a1).1=a0++[a1]:=by
 unfold md
 cases (!(Z61.md a0).2)<;>simp only [aO,aU]
 ·cases decide ((a0.length:Int)>=12)<;>simp only [aO,aU]
  ·cases (Z57.md ((Z61.md a0).1) a1) != 1<;>simp only [aO,aU]
   ·simp
   ·simp
  ·simp
 ·simp
def C4 (a0:List aa)(a1:aa):a0.length<=(md a0 a1).1.length:=by
 rcases Ef a0 a1 with h | h<;>rw [h]<;>simp
end Z75
namespace Z76
def F (x0:bT)(x1:an)(x2:bL)(x3:an):aC:=(call (Z61.R x0.aD) fun v1=>(call (Z63.R x0) fun v2=>(cond (!v2) (call (Z73.R x0) fun v3=>ret ((v3,2):bT×Int)) (call (Z74.R (v1.1,x2,x1)) fun v4=>(call (Z75.R (x0.aD,v4)) fun v5=>(cond (v5.2 != 1) (call (Z73.R x0) fun v6=>ret ((v6,v5.2):bT×Int)) (call (Z16.R x3) fun v7=>(call (Z63.R (⟨v5.1,v7⟩)) fun v8=>(cond (!v8) (call (Z73.R x0) fun v9=>ret ((v9,2):bT×Int)) (ret (((⟨v5.1,v7⟩),1):bT×Int)))))))))))
def md (a0:aI)(a1:List Int)(a2:au)(a3:List ah):aI×Int:=(cond (!(Z63.md a0)) (a0,2) (cond ((Z75.md a0.aD (Z74.md ((Z61.md a0.aD).1) a2 a1)).2 != 1) (a0,(Z75.md a0.aD (Z74.md ((Z61.md a0.aD).1) a2 a1)).2) (cond (!(Z63.md (⟨(Z75.md a0.aD (Z74.md ((Z61.md a0.aD).1) a2 a1)).1,a3⟩))) (a0,2) ((⟨(Z75.md a0.aD (Z74.md ((Z61.md a0.aD).1) a2 a1)).1,a3⟩),1))))
def gd (a0:aI)(a1:List Int)(a2:au)(a3:List ah):Prop:=(aI.Sm (2^21) a0)/\(bf (2^38) (fun y:Int=>True) a1)/\(au.Sm (2^21) a2)/\(bf (2^21) (fun y:ah=>ah.Sm (2^21) y) a3)
def R:=tI gd md
def aj {a0 a1 a2 a3}(h:gd a0 a1 a2 a3):R ((aI.r a0),(a1.map aQ),(au.r a2),(a3.map ah.row))=some ((aI.r (md a0 a1 a2 a3).1),(md a0 a1 a2 a3).2):=sH h
def aK:=CN [.agg sj,pL 3,.agg lC,pL 62] (.gS [(true,f188),(false,[fI])]) RT.dec R
def bn (a0)(a1)(a2)(a3)(hg:gd a0 a1 a2 a3):F (aI.r a0) (a1.map aQ) (au.r a2) (a3.map ah.row)=ret ((aI.r (md a0 a1 a2 a3).1),(md a0 a1 a2 a3).2):=by
 obtain ⟨H0,H1,H2,H3⟩:=hg
 refine ct (Z61.aj H0.1) (ct (Z63.aj H0) ?_)
 refine bP (fun b:aI×Int=>ret (((aI.r b.1),b.2):bT×Int)) (fun c1=>ct (Z73.aj H0) fz) (fun c1=>?_)
 refine ct (Z74.aj ⟨(Z61.fc H0.1),H2,H1⟩) (ct (Z75.aj ⟨H0.1,(Z74.fc ⟨(Z61.fc H0.1),H2,H1⟩)⟩) ?_)
 refine bP (fun b:aI×Int=>ret (((aI.r b.1),b.2):bT×Int)) (fun c2=>ct (Z73.aj H0) fz) (fun c2=>?_)
 refine ct (Z16.aj H3) (ct (Z63.aj (a0:=(⟨(Z75.md a0.aD (Z74.md ((Z61.md a0.aD).1) a2 a1)).1,a3⟩:aI)) ⟨(Z75.fc ⟨H0.1,(Z74.fc ⟨(Z61.fc H0.1),H2,H1⟩)⟩),H3⟩) ?_)
 exact bP (fun b:aI×Int=>ret (((aI.r b.1),b.2):bT×Int)) (fun c3=>ct (Z73.aj H0) fz) (fun c3=>fz)
def af:bZ 341 aK:=W4 51 F mix aA bn (vp Z61.af Z63.af Z73.af Z74.af Z75.af Z16.af) Tryz.func341
def CS {k:Nat}{a0:List aa}{n:Nat}(hn:n<=2^21)(h:bf n (fun y:aa=>aa.Sm k y) a0):au.Sm k (Z61.md a0).1:=by
 have h2:=h.1
 unfold Z61.md
 cases hc:Z60.md a0<;>simp only [Bool.not_true,Bool.not_false,aO,aU]
 ·exact ⟨bf.nil,bf.nil,bf.nil⟩
 ·have:=(Z60.tr hc).1
  exact (bf.getD h (by simp (disch:=omega) only [Go.IntWalk.i64_in];omega)).1
def nextK {k:Nat}{a0:au}{a1 a2 a3:Int}(h:au.Sm k a0):au.Sm k (Z69.md a0 a1 a2 a3).1:=by
 unfold Z69.md
 simp only [Bool.cond_eq_ite]
 repeat' split
 all_goals first | exact ⟨bf.nil,bf.nil,bf.nil⟩ | exact ⟨h.1,h.2.1,h.2.2⟩
def zj {k:Nat}{a0:au}{a1:List ah}{a2 a3:Int}(h:au.Sm k a0):au.Sm k (Z70.md a0 a1 a2 a3).1:=by
 have h1:=nextK (a1:=1) (a2:=a2) (a3:=a3) h
 unfold Z70.md
 simp only [Bool.cond_eq_ite]
 repeat' split
 all_goals first | exact ⟨bf.nil,bf.nil,bf.nil⟩ | exact ⟨h1.1,h1.2.1,h1.2.2⟩
def CP {k:Nat}{a0 a1:au}{a2:List Int}(h:au.Sm k a0)(h1:au.Sm k a1):aa.Sm k (Z74.md a0 a1 a2):=by
 unfold Z74.md
 simp only [Bool.cond_eq_ite]
 repeat' split
 ·exact Z44.DO h.2.1 h1
 ·exact Z44.DO h.2.2 h1
 ·exact Z44.DO h.1 h1
def zm {k:Nat}{a0:List aa}{a1:aa}(h:bf 12 (fun y:aa=>aa.Sm k y) a0)(h1:aa.Sm k a1):bf 12 (fun y:aa=>aa.Sm k y) (Z75.md a0 a1).1:=by
 unfold Z75.md
 simp only [Bool.cond_eq_ite]
 repeat' split
 all_goals first | exact h | skip
 rename_i h1 h2 h3
 have h2:¬((a0.length:Int)>=12):=by simpa using h2
 exact ⟨by simp;omega,fun x hx=>(List.mem_append.1 hx).elim (h.2 x) (fun h=>by simp at h;subst h;assumption)⟩
def EU {z:aI}(h:Z63.md z=true):Z15.md z.bI=true:=by
 unfold Z63.md at h
 revert h
 simp only [Bool.cond_eq_ite]
 repeat' split
 all_goals first | (intro h;cases h) | skip
 intro h
 unfold Z62.md at h
 cases e:Z15.md z.bI
 ·rw [e] at h;cases h
 ·rfl
def ok {z:aI}{k:List Int}{h:au}{l:List ah}(hz:Z45.ok z)(hh:au.Sm 64 h)(hl:∀z∈l,ah.Sm 64 z):Z45.ok (md z k h l).1:=by
 unfold md
 simp only [Bool.cond_eq_ite]
 repeat' split
 all_goals first | exact hz | skip
 rename_i h1 h2 h3
 have h3:=EU (by simpa using h3)
 have hs:=CP (a2:=k) (CS (by decide) hz.1.2) hh
 exact ⟨⟨le_trans hz.1.1 (Z75.C4 _ _),zm hz.1.2 hs⟩,⟨Z15.tr h3,hl⟩,h3⟩
end Z76
namespace Z77
def F (x0:bT)(x1 x2:an)(x3 x4:Int):aC:=(call (Z61.R x0.aD) fun v1=>(call (Z70.R (v1.1,x2,x3,x4)) fun v2=>(cond (!v2.2) (call (Z73.R x0) fun v3=>ret ((v3,2):bT×Int)) (call (Z63.R x0) fun v4=>(cond (!v4) (call (Z73.R x0) fun v5=>ret ((v5,2):bT×Int)) (call (Z76.R (x0,x1,v2.1,x2)) fun v6=>ret ((v6.1,v6.2):bT×Int)))))))
def md (a0:aI)(a1:List Int)(a2:List ah)(a3 a4:Int):aI×Int:=(cond (!(Z70.md ((Z61.md a0.aD).1) a2 a3 a4).2) (a0,2) (cond (!(Z63.md a0)) (a0,2) ((Z76.md a0 a1 ((Z70.md ((Z61.md a0.aD).1) a2 a3 a4).1) a2).1,(Z76.md a0 a1 ((Z70.md ((Z61.md a0.aD).1) a2 a3 a4).1) a2).2)))
def gd (a0:aI)(a1:List Int)(a2:List ah)(a3 a4:Int):Prop:=(aI.Sm (2^21) a0)/\(bf (2^38) (fun y:Int=>True) a1)/\(bf (2^21) (fun y:ah=>ah.Sm (2^21) y) a2)
def R:=qL gd md
def aj {a0 a1 a2 a3 a4}(h:gd a0 a1 a2 a3 a4):R ((aI.r a0),(a1.map aQ),(a2.map ah.row),a3,a4)=some ((aI.r (md a0 a1 a2 a3 a4).1),(md a0 a1 a2 a3 a4).2):=qA h
def aK:=CN [.agg sj,pL 3,pL 62,pI,pI] (.gS [(true,f188),(false,[fI])]) RT.dec R
def bn (a0)(a1)(a2)(a3)(a4)(hg:gd a0 a1 a2 a3 a4):F (aI.r a0) (a1.map aQ) (a2.map ah.row) a3 a4=ret ((aI.r (md a0 a1 a2 a3 a4).1),(md a0 a1 a2 a3 a4).2):=by
 obtain ⟨H0,H1,H2⟩:=hg
 refine ct (Z61.aj H0.1) (ct (Z70.aj ⟨(Z61.fc H0.1),H2⟩) ?_)
 refine bP (fun b:aI×Int=>ret (((aI.r b.1),b.2):bT×Int)) (fun c1=>ct (Z73.aj H0) fz) (fun c1=>?_)
 exact ct (Z63.aj H0) (bP (fun b:aI×Int=>ret (((aI.r b.1),b.2):bT×Int)) (fun c2=>ct (Z73.aj H0) fz) (fun c2=>ct (Z76.aj ⟨H0,H1,(Z70.fc ⟨(Z61.fc H0.1),H2⟩),H2⟩) fz))
def af:bZ 276 aK:=W5 46 F mix aA bn (wP Z61.af Z70.af Z73.af Z63.af Z76.af) Tryz.func276
def ok {z:aI}{k:List Int}{l:List ah}{now term:Int}(hz:Z45.ok z)(hl:∀z∈l,ah.Sm 64 z):Z45.ok (md z k l now term).1:=by
 have h:=Z76.ok (k:=k) hz (Z76.zj (a1:=l) (a2:=now) (a3:=term) (Z76.CS (by decide) hz.1.2)) hl
 unfold md
 simp only [Bool.cond_eq_ite]
 repeat' split
 all_goals first | exact hz | exact h
end Z77
namespace Z78
def F (x0:an)(x1 x2:Int):aC:=(call (Z2.R 3) fun v1=>(call (Z18.R (x0,x1,x2)) fun v2=>(call (Z45.R (v1,3,v2.2.2.2,0,150)) fun v3=>(call (Z2.R 2) fun v4=>(call (Z18.R (x0,v2.2.1,v2.2.2.1)) fun v5=>(call (Z45.R (v4,2,v5.2.2.2,0,150)) fun v6=>(call (Z18.R (x0,v5.2.1,v5.2.2.1)) fun v7=>(call (Z64.R v3.1) fun v8=>(call (Z65.R ((⟨#[115,104,111,112]⟩:az),v8)) fun v9=>(call (Z17.R (v7.2.2.2,v9)) fun v10=>(call (Z64.R v6.1) fun v11=>(call (Z6.R (x0,v7.2.1,v7.2.2.1)) fun v12=>(call (Z66.R ((⟨#[109,97,105,108]⟩:az),v11,[[L.str v12.2.2.2]])) fun v13=>(call (Z17.R (v10.1,v13)) fun v14=>(call (Z67.R (x0,v12.2.1,v12.2.2.1,3)) fun v15=>(cond v15.2.2.2 (call (Z64.R v6.1) fun v16=>(call (Z5.R (x0,v15.2.1,v15.2.2.1,[[L.str (⟨#[98,111,98]⟩:az)],[L.str (⟨#[97,110,110]⟩:az)],[L.str (⟨#[109,97,105,108]⟩:az)]])) fun v17=>(call (Z66.R ((⟨#[98,111,98]⟩:az),v16,[[L.str v17.2.2.2]])) fun v18=>(call (Z17.R (v6.1.bI,v18)) fun v19=>(call (Z77.R (v6.1,[[L.int 2]],v19.1,1,150)) fun v20=>(call (Z2.R 1) fun v21=>(call (Z45.R (v21,1,v14.1,0,150)) fun v22=>ret ((Hl.mk,v17.2.1,v17.2.2.1,[(bT.enc v22.1),(bT.enc v3.1),(bT.enc v20.1)]):Hl×Int×Int×an)))))))) (call (Z2.R 1) fun v23=>(call (Z45.R (v23,1,v14.1,0,150)) fun v24=>ret ((Hl.mk,v15.2.1,v15.2.2.1,[(bT.enc v24.1),(bT.enc v3.1),(bT.enc v6.1)]):Hl×Int×Int×an)))))))))))))))))))
abbrev eI:List K:=[.sl 5,aE,aE]
def pats:List (Option fE):=[none]
def res:RP:=.one (.fr 188)
abbrev E:Env:={ T:=assoc mq,G:=cW [(256,Z2.aK),(255,Z45.aK),(144,Z64.aK),(274,Z65.aK),(273,Z17.aK),(275,Z66.aK),(276,Z77.aK)],nt:=79,M:=eW [],np:=(nC eI),mt:=false,I:=gp [(272,Z18.ic (nC eI)),(237,Z6.ic (nC eI)),(142,Z67.ic (nC eI)),(192,Z5.ic (nC eI))] }
def run_eq (n:Nat)(ls:List L):eV E (fun _=>[]) Tryz.f178 (.cur eI res.parts) n (iI eI pats ls)=F (eM ls) (cI 1 ls) (cI 2 ls):=by kernel_rfl
def gd (x0:an)(x1 x2:Int):Prop:=CI x0 x1
def post (x0:an)(x1 x2:Int)(y:Hl×Int×Int×an):Prop:=CI x0 y.2.1/\∃zs:List aI,y.2.2.2=zs.map aI.row/\zs.length=3/\∀z∈zs,Z45.ok z
def wp (x0:an)(x1 x2:Int)(hg:gd x0 x1 x2):Wp (F x0 x1 x2) (post x0 x1 x2):=by
 unfold F
 have big:∀{l:List ah} {n:Nat},n<=2^21->bf n (fun z:ah=>ah.Sm 64 z) l->bf (2^21) (fun z:ah=>ah.Sm (2^21) z) l:=fun hn h=>h.mono hn fun _ h=>ah.dL (by decide) h
 have th:∀{l:List ah} {n:Nat},bf n (fun z:ah=>ah.Sm 64 z) l->Z15.md l=true->bf 12 (fun z:ah=>ah.Sm 64 z) l:=fun h ha=>⟨Z15.tr ha,h.2⟩
 have up:∀{l:List ah},bf 12 (fun z:ah=>ah.Sm 64 z) l->bf 1000 (fun z:ah=>ah.Sm 64 z) l:=fun h=>h.mono (by decide) fun _ h=>h
 have k1:∀n:Int,aN.Sm (2^21) (Z2.md n):=fun n=>⟨show (1:Nat)<=2^21 by decide,fun _ _=>trivial⟩
 have zz:∀{z:aI},Z45.ok z->aI.Sm (2^21) z:=fun h=>aI.dL (by decide) (Z45.AW h)
 have one:∀{b:az},b.size<=16->bf 64 (fun y:az=>y.size<=64) [b]:=fun h=>⟨by simp,fun y hy=>by simp at hy;subst hy;omega⟩
 refine bW (Z2.aj (a0:=3) trivial) (Z18.ep hg (fun v2 ⟨c2,l2,e2,s2,a2⟩=>?_))
 rw [e2]
 have o2:Z45.ok (Z45.md (Z2.md 3) 3 l2 0 150).1:=Z45.yM (by decide) (by decide) (by decide) (by decide) (by decide) s2.2 a2
 refine bW (Z45.aj (a0:=Z2.md 3) (a1:=3) (a2:=l2) (a3:=0) (a4:=150) ⟨k1 3,big (by decide) s2⟩) ?_
 generalize Z45.md (Z2.md 3) 3 l2 0 150=z2 at o2 ⊢
 refine bW (Z2.aj (a0:=2) trivial) (Z18.ep c2 (fun v5 ⟨c5,l5,e5,s5,a5⟩=>?_))
 rw [e5]
 have o5:Z45.ok (Z45.md (Z2.md 2) 2 l5 0 150).1:=Z45.yM (by decide) (by decide) (by decide) (by decide) (by decide) s5.2 a5
 refine bW (Z45.aj (a0:=Z2.md 2) (a1:=2) (a2:=l5) (a3:=0) (a4:=150) ⟨k1 2,big (by decide) s5⟩) ?_
 generalize Z45.md (Z2.md 2) 2 l5 0 150=z5 at o5 ⊢
 refine Z18.ep c5 (fun v7 ⟨c7,l7,e7,s7,a7⟩=>?_)
 rw [e7]
 refine bW (Z64.aj (a0:=z2.1) (zz o2)) (bW (Z65.aj trivial) ?_)
 refine Z17.ep ⟨⟨l7,rfl,up (th s7 a7),a7⟩,_,rfl,(show (4:Nat)<=64 by decide),zero_le _,fun _ h=>(nomatch h)⟩ (fun v10 ⟨l10,e10,s10,a10⟩=>?_)
 rw [e10]
 refine bW (Z64.aj (a0:=z5.1) (zz o5)) (Z6.ep c7 (fun v12 ⟨c12,s12⟩=>?_))
 refine bW (Z66.aj (a2:=[v12.2.2.2]) ((one s12).mono (by decide) fun _ h=>le_trans h (by decide))) ?_
 refine Z17.ep ⟨⟨l10,rfl,up (th s10 a10),a10⟩,_,rfl,(show (4:Nat)<=64 by decide),one s12⟩ (fun v14 ⟨l14,e14,s14,a14⟩=>?_)
 rw [e14]
 have o14:Z45.ok (Z45.md (Z2.md 1) 1 l14 0 150).1:=Z45.yM (by decide) (by decide) (by decide) (by decide) (by decide) s14.2 a14
 refine Z67.ep c12 (fun v15 c15=>wp_cond (fun _=>?_) (fun _=>?_))
 ·refine bW (Z64.aj (a0:=z5.1) (zz o5)) (Z5.ep ⟨c15,by show 0<3;decide⟩ (fun v17 ⟨c17,i,hi,e17⟩=>?_))
  have s17:v17.2.2.2.size<=16:=by rw [e17];exact lq rfl hi
  clear e17
  refine bW (Z66.aj (a2:=[v17.2.2.2]) ((one s17).mono (by decide) fun _ h=>le_trans h (by decide))) ?_
  refine Z17.ep ⟨⟨z5.1.bI,rfl,up o5.2.1,o5.2.2⟩,_,rfl,(show (3:Nat)<=64 by decide),one s17⟩ (fun v19 ⟨l19,e19,s19,a19⟩=>?_)
  rw [e19]
  refine bW (Z77.aj (a0:=z5.1) (a1:=[2]) (a2:=l19) (a3:=1) (a4:=150) ⟨zz o5,⟨show (1:Nat)<=2^38 by decide,fun _ _=>trivial⟩,big (by decide) (th s19 a19)⟩) ?_
  have o20:=Z77.ok (k:=[2]) (now:=1) (term:=150) o5 s19.2
  generalize Z77.md z5.1 [2] l19 1 150=z20 at o20 ⊢
  refine bW (Z2.aj (a0:=1) trivial) (bW (Z45.aj (a0:=Z2.md 1) (a1:=1) (a2:=l14) (a3:=0) (a4:=150) ⟨k1 1,big (by decide) (th s14 a14)⟩) (wp_ret ⟨c17,[(Z45.md (Z2.md 1) 1 l14 0 150).1,z2.1,z20.1],rfl,rfl,fun z hz=>?_⟩))
  simp only [List.mem_cons,List.not_mem_nil,or_false] at hz
  rcases hz with h | h | h<;>rw [h]<;>assumption
 ·refine bW (Z2.aj (a0:=1) trivial) (bW (Z45.aj (a0:=Z2.md 1) (a1:=1) (a2:=l14) (a3:=0) (a4:=150) ⟨k1 1,big (by decide) (th s14 a14)⟩) (wp_ret ⟨c15,[(Z45.md (Z2.md 1) 1 l14 0 150).1,z2.1,z5.1],rfl,rfl,fun z hz=>?_⟩))
  simp only [List.mem_cons,List.not_mem_nil,or_false] at hz
  rcases hz with h | h | h<;>rw [h]<;>assumption
def R:(an×Int×Int)->Option (Hl×Int×Int×an):=RQ (fun _ x=>F x.1 x.2.1 x.2.2) (fun x=>post x.1 x.2.1 x.2.2)
def ep {x0:an}{x1 x2:Int}{γ:Type}[RT γ]{k:(Hl×Int×Int×an)->aC}{Q:γ->Prop}(hg:gd x0 x1 x2)(hk:∀y,post x0 x1 x2 y->Wp (k y) Q):Wp (call (R (x0,x1,x2)) k) Q:=fN ⟨0,wp x0 x1 x2 hg⟩ hk
def acc (ls:List L):an×Int×Int:=((eM ls),(cI 1 ls),(cI 2 ls))
def aK:jX:=CC eI pats res acc R
def af:gL Tryz.prog Ev 178 aK:=VC (live:=(fun _=>[])) (mt:=false) mix aA (Ad Z2.af Z45.af Z64.af Z65.af Z17.af Z66.af Z77.af) .nil (.cons (Z18.bM (nC eI)) (.cons (Z6.bM (nC eI)) (.cons (Z67.bM (nC eI)) (.cons (Z5.bM (nC eI)) .nil)))) Tryz.func178 (by kernel_rfl) run_eq
def ic (_:Nat):gy:=kg Ev aK
def bM (n:Nat):dY Tryz.prog Ev n 178 (ic n):=eY af
end Z78
namespace Z79
def F (x0:an)(x1 x2:Int)(x3:bT):aC:=(call (Z73.R x3) fun v1=>(cond ((v1.aD.length:Int)>1) (ck ((0:Int)<=(i64.wrap (v1.aD.length - 1))) (ck ((i64.wrap (v1.aD.length - 1))<=v1.aD.length) (ck ((0:Int)<=(i64.wrap (((List.take (toNat ((i64.wrap (v1.aD.length - 1)) - 0)) (List.drop 0 v1.aD)).length) - 1))) (ck ((i64.wrap (((List.take (toNat ((i64.wrap (v1.aD.length - 1)) - 0)) (List.drop 0 v1.aD)).length) - 1))<((List.take (toNat ((i64.wrap (v1.aD.length - 1)) - 0)) (List.drop 0 v1.aD)).length)) (call (Z4.R (x0,x1,x2,9)) fun v2=>(call (Z7.R ((⟨#[101,118,105,108]⟩),v2.2.2.2)) fun v3=>(call (Z17.R (v1.bI,v3)) fun v4=>(call (Z4.R (x0,v2.2.1,v2.2.2.1,9)) fun v5=>(call (Z70.R ((aY.at (List.take (toNat ((i64.wrap (v1.aD.length - 1)) - 0)) (List.drop 0 v1.aD)) (toNat (i64.wrap (((List.take (toNat ((i64.wrap (v1.aD.length - 1)) - 0)) (List.drop 0 v1.aD)).length) - 1)))).aq,v4.1,(i64.wrap ((i64.wrap ((aY.at (List.take (toNat ((i64.wrap (v1.aD.length - 1)) - 0)) (List.drop 0 v1.aD)) (toNat (i64.wrap (((List.take (toNat ((i64.wrap (v1.aD.length - 1)) - 0)) (List.drop 0 v1.aD)).length) - 1)))).aq.cg+1))+v5.2.2.2)),100)) fun v6=>(cond (!v6.2) (ret ((Hl.mk,v5.2.1,v5.2.2.1,x3):Hl×Int×Int×bT)) (call (Z74.R ((aY.at (List.take (toNat ((i64.wrap (v1.aD.length - 1)) - 0)) (List.drop 0 v1.aD)) (toNat (i64.wrap (((List.take (toNat ((i64.wrap (v1.aD.length - 1)) - 0)) (List.drop 0 v1.aD)).length) - 1)))).aq,v6.1,(aY.at (List.take (toNat ((i64.wrap (v1.aD.length - 1)) - 0)) (List.drop 0 v1.aD)) (toNat (i64.wrap (((List.take (toNat ((i64.wrap (v1.aD.length - 1)) - 0)) (List.drop 0 v1.aD)).length) - 1)))).aq.bU.bz)) fun v7=>(call (Z75.R ((List.take (toNat ((i64.wrap (v1.aD.length - 1)) - 0)) (List.drop 0 v1.aD)),v7)) fun v8=>(cond (v8.2 != 1) (ret ((Hl.mk,v5.2.1,v5.2.2.1,x3):Hl×Int×Int×bT)) (ret ((Hl.mk,v5.2.1,v5.2.2.1,(⟨v8.1,v4.1⟩)):Hl×Int×Int×bT))))))))))))))) (ck ((0:Int)<=(i64.wrap (v1.aD.length - 1))) (ck ((i64.wrap (v1.aD.length - 1))<v1.aD.length) (call (Z4.R (x0,x1,x2,9)) fun v9=>(call (Z7.R ((⟨#[101,118,105,108]⟩),v9.2.2.2)) fun v10=>(call (Z17.R (v1.bI,v10)) fun v11=>(call (Z4.R (x0,v9.2.1,v9.2.2.1,9)) fun v12=>(call (Z70.R ((aY.at v1.aD (toNat (i64.wrap (v1.aD.length - 1)))).aq,v11.1,(i64.wrap ((i64.wrap ((aY.at v1.aD (toNat (i64.wrap (v1.aD.length - 1)))).aq.cg+1))+v12.2.2.2)),100)) fun v13=>(cond (!v13.2) (ret ((Hl.mk,v12.2.1,v12.2.2.1,x3):Hl×Int×Int×bT)) (call (Z74.R ((aY.at v1.aD (toNat (i64.wrap (v1.aD.length - 1)))).aq,v13.1,(aY.at v1.aD (toNat (i64.wrap (v1.aD.length - 1)))).aq.bU.bz)) fun v14=>(call (Z75.R (v1.aD,v14)) fun v15=>(cond (v15.2 != 1) (ret ((Hl.mk,v12.2.1,v12.2.2.1,x3):Hl×Int×Int×bT)) (ret ((Hl.mk,v12.2.1,v12.2.2.1,(⟨v15.1,v11.1⟩)):Hl×Int×Int×bT)))))))))))))))
abbrev eI:List K:=[.sl 5,aE,aE]
def pats:List (Option fE):=[none,some (.agg [.sl 53,.sl 62])]
def res:RP:=.agg [.rd (.sl 53),.rd (.sl 62)]
abbrev E:Env:={ T:=assoc mq,G:=cW [(328,Z73.aK),(329,Z7.aK),(273,Z17.aK),(330,Z70.aK),(332,Z74.aK),(331,Z75.aK)],nt:=78,M:=eW [],np:=(nC eI),mt:=false,I:=gp [(139,Z4.ic (nC eI))] }
def run_eq (n:Nat)(ls:List L):eV E (fun _=>[]) Tryz.f257 (.cur eI res.parts) n (iI eI pats ls)=F (eM ls) (cI 1 ls) (cI 2 ls) (bT.dec (bA 3 ls)):=by kernel_rfl
def gd (x0:an)(x1 x2:Int)(x3:bT):Prop:=CI x0 x1/\∃z:aI,x3=aI.r z/\Z45.ok z
def post (x0:an)(x1 x2:Int)(x3:bT)(y:Hl×Int×Int×bT):Prop:=CI x0 y.2.1/\∃z:aI,y.2.2.2=aI.r z/\Z45.ok z
def wp (x0:an)(x1 x2:Int)(x3:bT)(hg:gd x0 x1 x2 x3):Wp (F x0 x1 x2 x3) (post x0 x1 x2 x3):=by
 obtain ⟨hc,z,rfl,hz⟩:=hg
 have go:∀ch:List aa,1<=ch.length->bf 12 (fun y:aa=>aa.Sm 64 y) ch->Wp (ck ((0:Int)<=(i64.wrap (((ch.map aa.row).length:Int) - 1))) (ck ((i64.wrap (((ch.map aa.row).length:Int) - 1))<((ch.map aa.row).length:Int)) (call (Z4.R (x0,x1,x2,9)) fun v9=>(call (Z7.R ((⟨#[101,118,105,108]⟩:az),v9.2.2.2)) fun v10=>(call (Z17.R ((z.bI.map ah.row),v10)) fun v11=>(call (Z4.R (x0,v9.2.1,v9.2.2.1,9)) fun v12=>(call (Z70.R ((aY.at (ch.map aa.row) (toNat (i64.wrap (((ch.map aa.row).length:Int) - 1)))).aq,v11.1,(i64.wrap ((i64.wrap ((aY.at (ch.map aa.row) (toNat (i64.wrap (((ch.map aa.row).length:Int) - 1)))).aq.cg+1))+v12.2.2.2)),100)) fun v13=>(cond (!v13.2) (ret ((Hl.mk,v12.2.1,v12.2.2.1,(aI.r z)):Hl×Int×Int×bT)) (call (Z74.R ((aY.at (ch.map aa.row) (toNat (i64.wrap (((ch.map aa.row).length:Int) - 1)))).aq,v13.1,(aY.at (ch.map aa.row) (toNat (i64.wrap (((ch.map aa.row).length:Int) - 1)))).aq.bU.bz)) fun v14=>(call (Z75.R ((ch.map aa.row),v14)) fun v15=>(cond (v15.2 != 1) (ret ((Hl.mk,v12.2.1,v12.2.2.1,(aI.r z)):Hl×Int×Int×bT)) (ret ((Hl.mk,v12.2.1,v12.2.2.1,(⟨v15.1,v11.1⟩:bT)):Hl×Int×Int×bT))))))))))))) (post x0 x1 x2 (aI.r z)):=by
  intro ch h1 h2
  have h3:=h2.1
  have hw:i64.wrap (((ch.map aa.row).length:Int) - 1)=(ch.length:Int) - 1:=by rw [List.length_map];exact wi _ (by omega)
  have hat:aY.at (ch.map aa.row) (toNat (i64.wrap (((ch.map aa.row).length:Int) - 1)))=aa.r (ch.getD (ch.length - 1) aa.zero):=by
   rw [hw,show ((ch.length:Int) - 1).toNat=ch.length - 1 by omega]
   unfold aY.at
   rw [List.getD_eq_getElem?_getD,List.getD_eq_getElem?_getD,List.getElem?_map,List.getElem?_eq_getElem (by omega)]
   rfl
  have hsm:aa.Sm 64 (ch.getD (ch.length - 1) aa.zero):=bf.getD h2 (by omega)
  rw [hat]
  generalize ch.getD (ch.length - 1) aa.zero=s at hsm ⊢
  refine fO (decide_eq_true (by rw [hw];omega)) (fO (decide_eq_true (by rw [hw,List.length_map];omega)) ?_)
  refine Z4.ep hc (fun v9 ⟨c9,_⟩=>bW (Z7.aj trivial) (Z17.ep ⟨⟨z.bI,rfl,hz.2.1.mono (by decide) fun _ h=>h,hz.2.2⟩,_,rfl,(show (4:Nat)<=64 by decide),zero_le _,fun _ h=>(nomatch h)⟩ (fun v11 ⟨l11,e11,s11,a11⟩=>?_)))
  rw [e11]
  have t11:bf 12 (fun y:ah=>ah.Sm 64 y) l11:=⟨Z15.tr a11,s11.2⟩
  refine Z4.ep c9 (fun v12 ⟨c12,_⟩=>bW (Z70.aj ⟨au.dL (by decide) hsm.1,t11.mono (by decide) fun _ h=>ah.dL (by decide) h⟩) ?_)
  have hk:=Z76.zj (a1:=l11) (a2:=i64.wrap (i64.wrap ((aa.r s).aq.cg+1)+v12.2.2.2)) (a3:=100) hsm.1
  generalize Z70.md s.aq l11 (i64.wrap (i64.wrap ((aa.r s).aq.cg+1)+v12.2.2.2)) 100=h at hk ⊢
  refine wp_cond (fun _=>wp_ret ⟨c12,z,rfl,hz⟩) (fun _=>bW (Z74.aj ⟨au.dL (by decide) hsm.1,au.dL (by decide) hk,hsm.1.1.mono (by decide) fun _ h=>h⟩) ?_)
  have hs:=Z76.CP (a2:=s.aq.bU.bz) hsm.1 hk
  generalize Z74.md s.aq h.1 s.aq.bU.bz=q at hs ⊢
  refine bW (Z75.aj ⟨h2.mono (by decide) fun _ h=>aa.dL (by decide) h,aa.dL (by decide) hs⟩) (wp_cond (fun _=>wp_ret ⟨c12,z,rfl,hz⟩) (fun _=>wp_ret ⟨c12,⟨(Z75.md ch q).1,l11⟩,rfl,⟨le_trans h1 (Z75.C4 _ _),Z76.zm h2 hs⟩,t11,a11⟩))
 have hl:=hz.1.2.1
 have hw:i64.wrap (((z.aD.map aa.row).length:Int) - 1)=(z.aD.length:Int) - 1:=by rw [List.length_map];exact wi _ (by omega)
 refine bW (Z73.aj (aI.dL (by decide) (Z45.AW hz))) (wp_cond (fun h1=>?_) (fun _=>go z.aD hz.1.1 hz.1.2))
 have h1:=of_decide_eq_true h1
 have h1:((z.aD.map aa.row).length:Int)>1:=h1
 rw [List.length_map] at h1
 have e:List.take (toNat ((i64.wrap (((z.aD.map aa.row).length:Int) - 1)) - 0)) (List.drop 0 (z.aD.map aa.row))=(z.aD.take (z.aD.length - 1)).map aa.row:=by
  rw [hw,List.drop_zero,List.map_take];congr 1;omega
 refine fO (decide_eq_true (by show 0<=i64.wrap (((z.aD.map aa.row).length:Int) - 1);rw [hw];omega)) (fO (decide_eq_true (by show i64.wrap (((z.aD.map aa.row).length:Int) - 1)<=((z.aD.map aa.row).length:Int);rw [hw,List.length_map];omega)) ?_)
 have g:=go (z.aD.take (z.aD.length - 1)) (by rw [List.length_take];omega) ⟨by rw [List.length_take];omega,fun y hy=>hz.1.2.2 y (List.mem_of_mem_take hy)⟩
 rw [<-e] at g
 exact g
def R:(an×Int×Int×bT)->Option (Hl×Int×Int×bT):=RQ (fun _ x=>F x.1 x.2.1 x.2.2.1 x.2.2.2) (fun x=>post x.1 x.2.1 x.2.2.1 x.2.2.2)
def ep {x0:an}{x1 x2:Int}{x3:bT}{γ:Type}[RT γ]{k:(Hl×Int×Int×bT)->aC}{Q:γ->Prop}(hg:gd x0 x1 x2 x3)(hk:∀y,post x0 x1 x2 x3 y->Wp (k y) Q):Wp (call (R (x0,x1,x2,x3)) k) Q:=fN ⟨0,wp x0 x1 x2 x3 hg⟩ hk
def acc (ls:List L):an×Int×Int×bT:=((eM ls),(cI 1 ls),(cI 2 ls),(bT.dec (bA 3 ls)))
def aK:jX:=CC eI pats res acc R
def af:gL Tryz.prog Ev 257 aK:=VC (live:=(fun _=>[])) (mt:=false) mix aA (vp Z73.af Z7.af Z17.af Z70.af Z74.af Z75.af) .nil (.cons (Z4.bM (nC eI)) .nil) Tryz.func257 (by kernel_rfl) run_eq
def ic (_:Nat):gy:=kg Ev aK
def bM (n:Nat):dY Tryz.prog Ev n 257 (ic n):=eY af
end Z79
namespace Z80
inductive Pt where
 | p0 (a:Int) (b:bV) (c d:Int) (e:an)
def cF:Pt->List V
 | .p0 a b c d e=>[.bN 0 0,.bN 1 0,.bN 2 0,.int .i64 a,.bN 2 0]
def dN:Pt->List aL
 | .p0 a b c d e=>[.box [.sl none 188 b.bw,.int .i64 b.gF],.box [.nil,.int .i64 c],.box [.own 3,.int .i64 d],.row 188 e]
def step (J:Pt->aC):Pt->aC
 | .p0 a b c d e=>(cond (a<(b.bw.length:Int)) (m2 a (b.bw.length:Int) (call (Z73.R (bT.at b.bw (toNat a))) fun v1=>(ck (eG (((e.length:Int)+1)*48)) (J (.p0 (i64.wrap (a+1)) b c d (e++[(bT.enc v1)])))))) (ret ((⟨e,d⟩:bV):bV)))
def start (J:Pt->aC)(x0:bV):aC:=J (.p0 0 x0 0 x0.gF [])
def live:Nat->Live:=gx [(3,[(1,none),(2,none),(3,none),(4,none),(3,some 188)])]
def md (a0:ay):ay:=a0
def gd (a0:ay):Prop:=(ay.Sm (2^21) a0)
def R:=RR gd md
def aj {a0}(h:gd a0):R (ay.r a0)=some (ay.r a0):=cO h
def aK:=CN [.agg Af] (.agg f280) RT.dec R
def bn (a0)(H0:gd a0):∃n,start (iter step n) (ay.r a0)=ret (ay.r (md a0)):=by
 have Bh2:=bl H0
 refine ex_eq (out:=(fun b:ay=>ret ((ay.r b):bV))) (gW (xs:=a0.bw) (z:=aI.zero) (t:=fun s3:List aI=>(⟨s3,a0.gF⟩:ay))) (dc fz ?_)
 refine bH (pt:=fun (i1:Nat) (s3:List aI)=>Pt.p0 (i1:Int) (ay.r a0) 0 a0.gF (s3.map aI.row)) (s:=([]:List aI)) (out:=(fun b:ay=>ret ((ay.r b):bV))) (fun (i1:Nat) (s3:List aI)=>s3.length<=([]:List Int).length+1*i1) (fun J i1 s3 h2 hih2=>?_) (fun s3 hih2=>?_) (by simp)
 ·simp only [step,SS]
  have gr_:=hih2
  simp only [LN] at gr_
  have:=(H0).1
  refine aP.yes dt (aP.yes bu ?_)
  refine aP.yes (bK h2) (cr (Z73.aj (bf.getD H0 h2)) ?_)
  refine aP.yes lm ?_
  refine aP.inl (by
    (simp;omega)) ?_
  rw [aF h2 Bh2]
  exact fz
 ·simp only [step,SS]
  refine cH dn (⟨0,?_⟩)
  exact fz
def af:bZ 333 aK:=L1 27 (fun _=>3) cF dN live step start mix aA bn (cM Z73.af) Tryz.func333
end Z80
namespace Z81
inductive Pt where
 | p0 (a:Int) (b:bV)
def cF:Pt->List V
 | .p0 a b=>[.bN 0 0,.int .i64 a]
def dN:Pt->List aL
 | .p0 a b=>[.box [.sl none 188 b.bw,.int .i64 b.gF]]
def step (J:Pt->aC):Pt->aC
 | .p0 a b=>(cond (a<(b.bw.length:Int)) (m2 a (b.bw.length:Int) (call (Z63.R (bT.at b.bw (toNat a))) fun v1=>(cond (!v1) fq (J (.p0 (i64.wrap (a+1)) b))))) (cond ((b.bw.length:Int)<=8) (call (Z11.R (b.gF,0,4)) fun v2=>ret (v2:Bool)) fq))
def start (J:Pt->aC)(x0:bV):aC:=J (.p0 0 x0)
def live:Nat->Live:=gx [(2,iR [1,3])]
def md (a0:ay):Bool:=(dQ (S:=Unit) (β:=Bool) (fun y1 s3=>(cond (!(Z63.md y1)) (.inr false) (.inl ()))) (fun s3=>(cond ((a0.bw.length:Int)<=8) ((Z11.md a0.gF 0 4)) false)) a0.bw ())
def gd (a0:ay):Prop:=(ay.Sm (2^21) a0)
def R:=RR gd md
def aj {a0}(h:gd a0):R (ay.r a0)=some (md a0):=cO h
def aK:=CN [.agg Af] oB RT.dec R
def bn (a0)(H0:gd a0):∃n,start (iter step n) (ay.r a0)=ret (md a0):=by
 have Bh2:=bl H0
 refine ex_eq (dV (z:=aI.zero)) (dc fz ?_)
 refine bH (pt:=fun (i1:Nat) (s3:Unit)=>Pt.p0 (i1:Int) (ay.r a0)) (fun _ _=>True) (fun J i1 s3 h2 hih2=>?_) (fun s3 hih2=>?_) trivial
 ·simp only [step,SS]
  refine aP.yes dt (aP.yes bu ?_)
  refine aP.yes (bK h2) (cr (Z63.aj (bf.getD H0 h2)) ?_)
  refine aP.bif (fun _=>aP.inr rfl) (fun c4=>?_)
  refine aP.inl trivial ?_
  rw [aF h2 Bh2]
 ·simp only [step,SS]
  refine cH dn (gB ret (fun c5=>?_) (fun _=>⟨0,rfl⟩))
  refine cx (Z11.aj trivial) (⟨0,?_⟩)
  exact fz
def af:bZ 334 aK:=L1 27 (fun _=>2) cF dN live step start mix aA bn (eS Z63.af Z11.af) Tryz.func334
end Z81
namespace Z82
inductive Pt where
 | p0 (a b:Int) (c:bV)
def cF:Pt->List V
 | .p0 a b c=>[.int .i64 a,.bN 0 0,.int .i64 b]
def dN:Pt->List aL
 | .p0 a b c=>[.box [.sl none 188 c.bw,.int .i64 c.gF]]
def step (J:Pt->aC):Pt->aC
 | .p0 a b c=>(cond (b<(c.bw.length:Int)) (m2 b (c.bw.length:Int) (call (Z64.R (bT.at c.bw (toNat b))) fun v1=>(cond (v1==a) (cond (a>=0) (ret (b:Int)) (J (.p0 a (i64.wrap (b+1)) c))) (J (.p0 a (i64.wrap (b+1)) c))))) mG)
def start (J:Pt->aC)(x0:bV)(x1:Int):aC:=J (.p0 x1 0 x0)
def live:Nat->Live:=gx [(2,iR [1,2,5])]
def md (a0:ay)(a1:Int):Int:=(dD (S:=Unit) (β:=Int) (fun i1 y1 s3=>(cond ((Z64.md y1)==a1) (cond (a1>=0) (.inr (i1)) (.inl ())) (.inl ()))) (fun s3=>((-1):Int)) 0 a0.bw ())
def gd (a0:ay)(a1:Int):Prop:=(ay.Sm (2^21) a0)
def R:=cL gd md
def aj {a0 a1}(h:gd a0 a1):R ((ay.r a0),a1)=some (md a0 a1):=cK h
def aK:=CN [.agg Af,pI] oI RT.dec R
def bn (a0)(a1)(H0:gd a0 a1):∃n,start (iter step n) (ay.r a0) a1=ret (md a0 a1):=by
 have Bh2:=bl H0
 refine ex_eq (cC (z:=aI.zero)) (dc fz ?_)
 refine bH (pt:=fun (i1:Nat) (s3:Unit)=>Pt.p0 a1 (i1:Int) (ay.r a0)) (fun _ _=>True) (fun J i1 s3 h2 hih2=>?_) (fun s3 hih2=>?_) trivial
 ·simp only [step,SS]
  refine aP.yes dt (aP.yes bu ?_)
  refine aP.yes (bK h2) (cr (Z64.aj (bf.getD H0 h2)) ?_)
  refine aP.bif (fun c4=>?_) (fun c4=>?_)
  ·refine aP.bif (fun c5=>aP.inr fz) (fun c5=>?_)
   refine aP.inl trivial ?_
   rw [aF h2 Bh2]
  ·refine aP.inl trivial ?_
   rw [aF h2 Bh2]
 ·simp only [step,SS]
  refine cH dn (⟨0,?_⟩)
  exact fz
def af:bZ 335 aK:=L2 26 (fun _=>2) cF dN live step start mix aA bn (cM Z64.af) Tryz.func335
def fa (a0:ay)(a1:Int):-1<=md a0 a1/\md a0 a1<(a0.bw.length:Int):=by
 refine jN ?_ _ _
 all_goals
  intro i x s b h
  revert h
  simp only [Bool.cond_eq_ite]
  repeat' split
  all_goals (intro h;first | (cases h;rfl) | cases h)
end Z82
namespace Z83
def F (x0:bV)(x1:bT):aC:=(call (Z80.R x0) fun v1=>(call (Z81.R x0) fun v2=>(cond (!v2) (ret ((v1,false):bV×Bool)) (call (Z63.R x1) fun v3=>(cond (!v3) (ret ((v1,false):bV×Bool)) (call (Z64.R x1) fun v4=>(call (Z82.R (x0,v4)) fun v5=>(cond (v5>=0) (call (Z73.R x1) fun v6=>(m2 v5 v1.bw.length (ret (((⟨(List.set v1.bw (toNat v5) (bT.enc v6)),v1.gF⟩),true):bV×Bool)))) (cond ((x0.bw.length:Int)>=8) (ret ((v1,false):bV×Bool)) (call (Z73.R x1) fun v7=>(ck (eG ((v1.bw.length+1)*48)) (ret (((⟨(v1.bw++[(bT.enc v7)]),v1.gF⟩),true):bV×Bool)))))))))))))
def md (a0:ay)(a1:aI):ay×Bool:=(cond (!(Z81.md a0)) (a0,false) (cond (!(Z63.md a1)) (a0,false) (cond ((Z82.md a0 (Z64.md a1))>=0) ((⟨(List.set a0.bw (toNat (Z82.md a0 (Z64.md a1))) a1),a0.gF⟩),true) (cond ((a0.bw.length:Int)>=8) (a0,false) ((⟨(a0.bw++[a1]),a0.gF⟩),true)))))
def gd (a0:ay)(a1:aI):Prop:=(ay.Sm (2^21) a0)/\(aI.Sm (2^21) a1)
def R:=cL gd md
def aj {a0 a1}(h:gd a0 a1):R ((ay.r a0),(aI.r a1))=some ((ay.r (md a0 a1).1),(md a0 a1).2):=cK h
def aK:=CN [.agg Af,.agg sj] (.gS [(true,f280),(false,[fB])]) RT.dec R
def bn (a0)(a1)(hg:gd a0 a1):F (ay.r a0) (aI.r a1)=ret ((ay.r (md a0 a1).1),(md a0 a1).2):=by
 obtain ⟨H0,H1⟩:=hg
 refine ct (Z80.aj H0) ?_
 simp only [SS]
 refine ct (Z81.aj H0) (bP (fun b:ay×Bool=>ret (((ay.r b.1),b.2):bV×Bool)) (fun c1=>fz) (fun c1=>?_))
 refine ct (Z63.aj H1) (bP (fun b:ay×Bool=>ret (((ay.r b.1),b.2):bV×Bool)) (fun c2=>fz) (fun c2=>?_))
 refine ct (Z64.aj H1) (ct (Z82.aj H0) ?_)
 have fv5_:=Z82.fa a0 (Z64.md a1)
 refine bP (fun b:ay×Bool=>ret (((ay.r b.1),b.2):bV×Bool)) (fun c3=>?_) (fun c3=>?_)
 ·have dc3:=c3
  simp only [DC] at dc3
  refine ct (Z73.aj H1) (aG dt ?_)
  exact aG dt fz
 ·refine bP (fun b:ay×Bool=>ret (((ay.r b.1),b.2):bV×Bool)) (fun c4=>fz) (fun c4=>?_)
  have dc4:=c4
  simp only [DC] at dc4
  refine ct (Z73.aj H1) (aG lm ?_)
  exact fz
def af:bZ 258 aK:=W2 45 F mix aA bn (vp Z80.af Z81.af Z63.af Z64.af Z82.af Z73.af) Tryz.func258
def DO {k:Nat}{a0:ay}{a1:aI}(hk:8<=k)(h:ay.Sm k a0)(h1:aI.Sm k a1):ay.Sm k (md a0 a1).1:=by
 have hm:∀x∈a0.bw,aI.Sm k x:=h.2
 unfold md
 simp only [Bool.cond_eq_ite]
 repeat' split
 all_goals first | exact h | skip
 ·exact ⟨by simpa using h.1,fun x hx=>(List.mem_or_eq_of_mem_set hx).elim (hm x) (fun e=>e ▸ h1)⟩
 ·rename_i h4
  have h4:¬((a0.bw.length:Int)>=8):=by simpa using h4
  exact ⟨by simp;omega,fun x hx=>(List.mem_append.1 hx).elim (hm x) (fun e=>by simp at e;subst e;exact h1)⟩
end Z83
namespace Z84
def F (x0:an)(x1 x2:Int)(x3:an):aC:=(call (Z4.R (x0,x1,x2,(x3.length:Int))) fun v1=>(ck ((0:Int)<=v1.2.2.2) (ck (v1.2.2.2<(x3.length:Int)) (ret ((Hl.mk,v1.2.1,v1.2.2.1,(gR x3 (toNat v1.2.2.2))):Hl×Int×Int×Int)))))
abbrev eI:List K:=[.sl 5,aE,aE]
def pats:List (Option fE):=[none,some (.rd (.sl 3))]
def res:RP:=.one (.rd (.int .i64))
abbrev E:Env:={ T:=assoc mq,G:=cW [],nt:=12,M:=eW [],np:=(nC eI),mt:=false,I:=gp [(139,Z4.ic (nC eI))] }
def run_eq (n:Nat)(ls:List L):eV E (fun _=>[]) Tryz.f145 (.cur eI res.parts) n (iI eI pats ls)=F (eM ls) (cI 1 ls) (cI 2 ls) (fJ 3 ls):=by kernel_rfl
def gd (x0:an)(x1 x2:Int)(x3:an):Prop:=CI x0 x1/\0<x3.length
def post (x0:an)(x1 x2:Int)(x3:an)(y:Hl×Int×Int×Int):Prop:=CI x0 y.2.1/\∃i,i<x3.length/\y.2.2.2=gR x3 i
def wp (x0:an)(x1 x2:Int)(x3:an)(hg:gd x0 x1 x2 x3):Wp (F x0 x1 x2 x3) (post x0 x1 x2 x3):=by
 unfold F
 refine Z4.ep hg.1 (fun v ⟨hv,_,h⟩=>?_)
 obtain ⟨h1,h2⟩:=h (by have:=hg.2;omega)
 exact fO (decide_eq_true h1) (fO (decide_eq_true h2) (wp_ret ⟨hv,_,by omega,rfl⟩))
def R:(an×Int×Int×an)->Option (Hl×Int×Int×Int):=RQ (fun _ x=>F x.1 x.2.1 x.2.2.1 x.2.2.2) (fun x=>post x.1 x.2.1 x.2.2.1 x.2.2.2)
def ep {x0:an}{x1 x2:Int}{x3:an}{γ:Type}[RT γ]{k:(Hl×Int×Int×Int)->aC}{Q:γ->Prop}(hg:gd x0 x1 x2 x3)(hk:∀y,post x0 x1 x2 x3 y->Wp (k y) Q):Wp (call (R (x0,x1,x2,x3)) k) Q:=fN ⟨0,wp x0 x1 x2 x3 hg⟩ hk
def acc (ls:List L):an×Int×Int×an:=((eM ls),(cI 1 ls),(cI 2 ls),(fJ 3 ls))
def aK:jX:=CC eI pats res acc R
def af:gL Tryz.prog Ev 145 aK:=VC (live:=(fun _=>[])) (mt:=false) mix aA .nil .nil (.cons (Z4.bM (nC eI)) .nil) Tryz.func145 (by kernel_rfl) run_eq
def ic (_:Nat):gy:=kg Ev aK
def bM (n:Nat):dY Tryz.prog Ev n 145 (ic n):=eY af
end Z84
namespace Z85
inductive Pt where
 | p0 (a:an) (b c d:Int) (e f:an)
 | p1 (a:an) (b:Int) (c:an) (d e f g:Int) (h i:an) (j:Int) (k:an)
def pid:Pt->Nat
 | .p0 ..=>3
 | .p1 ..=>7
def cF:Pt->List V
 | .p0 a b c d e f=>[.bN 0 0,.sl none 188 a,.own 2,.int .i64 b]
 | .p1 a b c d e f g h i j k=>[.bN 0 0,.sl none 188 a,.own 2,.int .i64 b,.bN 3 0,.sl none 188 c,.int .i64 d,.int .i64 e,.bN 3 0]
def dN:Pt->List aL
 | .p0 a b c d e f=>[.box [.own 1,.int .i64 c,.int .i64 d],.vw 5 e,.row 280 f]
 | .p1 a b c d e f g h i j k=>[.box [.own 1,.int .i64 f,.int .i64 g],.vw 5 h,.row 280 i,.box [.own 4,.int .i64 j],.row 188 k]
def step (J:Pt->aC):Pt->aC
 | .p0 a b c d e f=>(cond (b>0) (J (.p1 a b a (a.length:Int) 0 c d e f 0 [])) (ret ((Hl.mk,c,d,f):Hl×Int×Int×an)))
 | .p1 a b c d e f g h i j k=>(cond (e<d) (m2 e (c.length:Int) (call (Z67.R (h,f,g,8)) fun v1=>(cond v1.2.2.2 (call (Z79.R (h,v1.2.1,v1.2.2.1,(bT.at c (toNat e)))) fun v2=>(call (Z67.R (h,v2.2.1,v2.2.2.1,8)) fun v3=>(cond (!v3.2.2.2) (call (Z83.R ((⟨k,j⟩:bV),v2.2.2.2)) fun v4=>J (.p1 a b c d (i64.wrap (e+1)) v3.2.1 v3.2.2.1 h i v4.1.gF v4.1.bw)) (J (.p1 a b c d (i64.wrap (e+1)) v3.2.1 v3.2.2.1 h i j k))))) (call (Z67.R (h,v1.2.1,v1.2.2.1,8)) fun v5=>(cond (!v5.2.2.2) (call (Z83.R ((⟨k,j⟩:bV),(bT.at c (toNat e)))) fun v6=>J (.p1 a b c d (i64.wrap (e+1)) v5.2.1 v5.2.2.1 h i v6.1.gF v6.1.bw)) (J (.p1 a b c d (i64.wrap (e+1)) v5.2.1 v5.2.2.1 h i j k))))))) (call (Z84.R (h,f,g,[[L.int 0],[L.int 0],[L.int 0],[L.int 1],[L.int 2],[L.int 3],[L.int 4]])) fun v7=>(ck (eG (((i.length:Int)+1)*32)) (J (.p0 a (i64.wrap (b - 1)) v7.2.1 v7.2.2.1 h (i++[(bV.enc (⟨k,v7.2.2.2⟩:bV))]))))))
def start (J:Pt->aC)(x0:an)(x1 x2:Int)(x3:an):aC:=(call (Z4.R (x0,x1,x2,3)) fun v1=>J (.p0 x3 (i64.wrap (1+v1.2.2.2)) v1.2.1 v1.2.2.1 x0 []))
def live:Nat->Live:=gx [(3,[(0,none),(1,none),(5,some 280),(6,none)]),(7,[(0,none),(1,none),(5,some 280),(6,none),(7,none),(19,none),(20,none),(21,none),(7,some 188)])]
abbrev eI:List K:=[.sl 5,aE,aE]
def pats:List (Option fE):=[none,some (.rd (.sl 188))]
def res:RP:=.one (.fr 280)
abbrev E:Env:={ T:=assoc mq,G:=cW [(258,Z83.aK)],nt:=49,M:=eW [],np:=(nC eI),mt:=false,I:=gp [(139,Z4.ic (nC eI)),(142,Z67.ic (nC eI)),(257,Z79.ic (nC eI)),(145,Z84.ic (nC eI))] }
def step_eq (I:dB)(p:Pt):dU E live I (pid p) (bJ Tryz.f179) (iN (live (pid p)) (cF p) (dN p)) (dz E Tryz.f179 (.cur eI res.parts))=step (fun q=>I (pid q) (cF q) (dN q)) p:=by
 cases p<;>kernel_rfl
def start_eq (I:dB)(ls:List L):gJ E live I (bJ Tryz.f179) (iI eI pats ls) (dz E Tryz.f179 (.cur eI res.parts))=start (fun q=>I (pid q) (cF q) (dN q)) (eM ls) (cI 1 ls) (cI 2 ls) (fJ 3 ls):=by kernel_rfl
def run_eq (n:Nat)(ls:List L):eV E live Tryz.f179 (.cur eI res.parts) n (iI eI pats ls)=start (iter step n) (eM ls) (cI 1 ls) (cI 2 ls) (fJ 3 ls):=dK (id:=pid) (vs:=cF) (hs:=dN) (step:=step) (start:=fun J=>start J (eM ls) (cI 1 ls) (cI 2 ls) (fJ 3 ls)) step_eq (fun I=>start_eq I ls) n
def gd (x0:an)(x1 x2:Int)(x3:an):Prop:=CI x0 x1/\∃zs:List aI,x3=zs.map aI.row/\zs.length=3/\∀z∈zs,Z45.ok z
def post (x0:an)(x1 x2:Int)(x3:an)(y:Hl×Int×Int×an):Prop:=CI x0 y.2.1/\∃m:List ay,y.2.2.2=m.map ay.row/\bf 3 (fun z:ay=>ay.Sm 64 z) m
def wp (x0:an)(x1 x2:Int)(x3:an)(hg:gd x0 x1 x2 x3):∃n,Wp (start (iter step n) x0 x1 x2 x3) (post x0 x1 x2 x3):=by
 obtain ⟨hc,zs,rfl,h3,hz⟩:=hg
 have key:∀b c d,1<=b->b<=3->CI x0 c->∃n,Wp (iter step n (.p0 (zs.map aI.row) b c d x0 [])) (post x0 x1 x2 (zs.map aI.row)):=by
  intro b0 c0 d0 b1 b2 b3
  refine ⟨36,lM (fun p=>match p with
   | .p0 a b c d e f=>a=zs.map aI.row/\0<=b/\b<=3/\CI e c/\e=x0/\∃ms:List ay,f=ms.map ay.row/\(ms.length:Int)+b<=3/\∀s∈ms,ay.Sm 64 s
   | .p1 a b c d e f g h i j k=>a=zs.map aI.row/\1<=b/\b<=3/\c=zs.map aI.row/\d=3/\0<=e/\e<=3/\CI h f/\h=x0/\(∃ms:List ay,i=ms.map ay.row/\(ms.length:Int)+b<=3/\∀s∈ms,ay.Sm 64 s)/\∃s:ay,(⟨k,j⟩:bV)=ay.r s/\ay.Sm 64 s)
   (fun p=>match p with | .p0 a b c d e f=>(10*b+5).toNat | .p1 a b c d e f g h i j k=>(10*b+(3 - e)).toNat) (fun J p hI hJ=>?_) _ _ ⟨rfl,by omega,b2,b3,rfl,[],rfl,by show (0:Int)+b0<=3;omega,fun _ h=>(nomatch h)⟩ (by show (10*b0+5).toNat<36;omega)⟩
  cases p with
  | p0 a b c d e f=>
   obtain ⟨rfl,k1,k2,k3,rfl,ms,rfl,h6,h7⟩:=hI
   refine wp_cond (fun c1=>?_) (fun c1=>wp_ret ⟨k3,ms,rfl,by omega,h7⟩)
   have c1:=of_decide_eq_true c1
   refine hJ _ ⟨rfl,by omega,k2,rfl,by rw [List.length_map,h3];rfl,Int.le_refl _,by decide,k3,rfl,⟨ms,rfl,h6,h7⟩,⟨[],0⟩,rfl,zero_le _,fun _ h=>(nomatch h)⟩ ?_
   show (10*b+(3 - 0)).toNat<(10*b+5).toNat
   omega
  | p1 a b c d e f g h i j k=>
   obtain ⟨rfl,k1,k2,rfl,rfl,k4,k5,k6,rfl,⟨ms,rfl,h6,h7⟩,s,hs,h8⟩:=hI
   refine wp_cond (fun c1=>?_) (fun c1=>?_)
   ·have c1:=of_decide_eq_true c1
    have e1:i64.wrap (e+1)=e+1:=wi _ (by omega)
    have q0:0<=i64.wrap (e+1):=by omega
    have q3:i64.wrap (e+1)<=3:=by omega
    have km:(10*b+(3 - i64.wrap (e+1))).toNat<(10*b+(3 - e)).toNat:=by omega
    have hi:e.toNat<zs.length:=by omega
    have ho:=hz _ (List.getElem_mem hi)
    refine qk k4 (by rw [List.length_map];omega) ?_
    rw [aI.tw hi]
    have rest:∀(z:aI) (p q:Int),Z45.ok z->CI h p->Wp (call (Z67.R (h,p,q,8)) fun v3=>(cond (!v3.2.2.2) (call (Z83.R ((⟨k,j⟩:bV),aI.r z)) fun v4=>J (.p1 (zs.map aI.row) b (zs.map aI.row) 3 (i64.wrap (e+1)) v3.2.1 v3.2.2.1 h (ms.map ay.row) v4.1.gF v4.1.bw)) (J (.p1 (zs.map aI.row) b (zs.map aI.row) 3 (i64.wrap (e+1)) v3.2.1 v3.2.2.1 h (ms.map ay.row) j k)))) (post h x1 x2 (zs.map aI.row)):=by
     intro z p q hz hp
     refine Z67.ep hp (fun v3 d3=>wp_cond (fun _=>?_) (fun _=>hJ _ ⟨rfl,k1,k2,rfl,rfl,q0,q3,d3,rfl,⟨ms,rfl,h6,h7⟩,s,hs,h8⟩ km))
     rw [hs]
     refine bW (Z83.aj ⟨ay.dL (by decide) h8,aI.dL (by decide) (Z45.AW hz)⟩) (hJ _ ⟨rfl,k1,k2,rfl,rfl,q0,q3,d3,rfl,⟨ms,rfl,h6,h7⟩,(Z83.md s z).1,rfl,Z83.DO (by decide) h8 (Z45.AW hz)⟩ km)
    refine Z67.ep k6 (fun v1 d1=>wp_cond (fun _=>?_) (fun _=>rest _ _ _ ho d1))
    refine Z79.ep ⟨d1,_,rfl,ho⟩ (fun v2 ⟨d2,z2,ez,oz⟩=>?_)
    rw [ez]
    exact rest _ _ _ oz d2
   ·refine Z84.ep ⟨k6,by show 0<7;decide⟩ (fun v7 ⟨d7,_⟩=>fO (fQ (by rw [List.length_map];omega)) ?_)
    have e1:i64.wrap (b - 1)=b - 1:=wi _ (by omega)
    have hk:k=s.bw.map aI.row:=congrArg bV.bw hs
    refine hJ _ ⟨rfl,by omega,by omega,d7,rfl,ms++[⟨s.bw,v7.2.2.2⟩],by rw [List.map_append,hk];rfl,by rw [e1];simp;omega,fun x hx=>?_⟩ ?_
    ·rcases List.mem_append.1 hx with h | h
     ·exact h7 x h
     ·rw [List.mem_singleton.1 h];exact h8
    ·show (10*i64.wrap (b - 1)+5).toNat<(10*b+(3 - e)).toNat
     omega
 obtain ⟨v,hv,pv⟩:=Z4.mS (x3:=3) hc
 obtain ⟨h1,h2⟩:=pv.2.2 (by decide)
 have e1:i64.wrap (1+v.2.2.2)=1+v.2.2.2:=wi _ (by omega)
 obtain ⟨n,hn⟩:=key (i64.wrap (1+v.2.2.2)) v.2.1 v.2.2.1 (by omega) (by omega) pv.1
 exact ⟨n,bW hv hn⟩
def R:(an×Int×Int×an)->Option (Hl×Int×Int×an):=RQ (fun n x=>start (iter step n) x.1 x.2.1 x.2.2.1 x.2.2.2) (fun x=>post x.1 x.2.1 x.2.2.1 x.2.2.2)
def ep {x0:an}{x1 x2:Int}{x3:an}{γ:Type}[RT γ]{k:(Hl×Int×Int×an)->aC}{Q:γ->Prop}(hg:gd x0 x1 x2 x3)(hk:∀y,post x0 x1 x2 x3 y->Wp (k y) Q):Wp (call (R (x0,x1,x2,x3)) k) Q:=fN (wp x0 x1 x2 x3 hg) hk
def acc (ls:List L):an×Int×Int×an:=((eM ls),(cI 1 ls),(cI 2 ls),(fJ 3 ls))
def aK:jX:=CC eI pats res acc R
def af:gL Tryz.prog Ev 179 aK:=VC (live:=live) (mt:=false) mix aA (cM Z83.af) .nil (.cons (Z4.bM (nC eI)) (.cons (Z67.bM (nC eI)) (.cons (Z79.bM (nC eI)) (.cons (Z84.bM (nC eI)) .nil)))) Tryz.func179 (by kernel_rfl) run_eq
def ic (_:Nat):gy:=kg Ev aK
def bM (n:Nat):dY Tryz.prog Ev n 179 (ic n):=eY af
end Z85
namespace Z86
def F (x0:cB):aC:=(call (Z71.R x0.bq) fun v1=>(call (Z71.R x0.fA) fun v2=>(call (Z71.R x0.fB) fun v3=>ret ((⟨v1,v2,v3⟩):cB))))
def md (a0:aM):aM:=a0
def gd (a0:aM):Prop:=(aM.Sm (2^21) a0)
def R:=RR gd md
def aj {a0}(h:gd a0):R (aM.r a0)=some (aM.r a0):=cO h
def aK:=CN [.agg vO] (.agg f170) RT.dec R
def bn (a0)(H0:gd a0):F (aM.r a0)=ret (aM.r (md a0)):=by
 refine ct (Z71.aj H0.1) (ct (Z71.aj H0.2.1) ?_)
 exact ct (Z71.aj H0.2.2) fz
def af:bZ 214 aK:=W1 13 F mix aA bn (cM Z71.af) Tryz.func214
end Z86
namespace Z87
inductive Pt where
 | p0 (a:Int) (b:aW) (c:an)
 | p1 (a:Int) (b:aW) (c d:an)
def pid:Pt->Nat
 | .p0 ..=>3
 | .p1 ..=>7
def cF:Pt->List V
 | .p0 a b c=>[.bN 0 0,.bN 1 0,.bN 2 0,.int .i64 a,.bN 2 0]
 | .p1 a b c d=>[.bN 0 0,.bN 1 0,.bN 2 0,.int .i64 a,.bN 2 0,.bN 2 0]
def dN:Pt->List aL
 | .p0 a b c=>[.box [.sl none 37 b.aH,.sl none 170 b.bg],.box [.nil,.nil],.box [.own 3,.nil],.row 37 c]
 | .p1 a b c d=>[.box [.sl none 37 b.aH,.sl none 170 b.bg],.box [.nil,.nil],.box [.own 3,.own 4],.row 37 c,.row 170 d]
def step (J:Pt->aC):Pt->aC
 | .p0 a b c=>(cond (a<(b.aH.length:Int)) (m2 a (b.aH.length:Int) (call (Z72.R (jo b.aH (toNat a))) fun v1=>(ck (eG (((c.length:Int)+1)*24)) (J (.p0 (i64.wrap (a+1)) b (c++[[L.sl v1]])))))) (J (.p1 0 b c [])))
 | .p1 a b c d=>(cond (a<(b.bg.length:Int)) (m2 a (b.bg.length:Int) (call (Z86.R (cB.at b.bg (toNat a))) fun v1=>(ck (eG (((d.length:Int)+1)*600)) (J (.p1 (i64.wrap (a+1)) b c (d++[(cB.enc v1)])))))) (ret ((⟨c,d⟩:aW):aW)))
def start (J:Pt->aC)(x0:aW):aC:=J (.p0 0 x0 [])
def live:Nat->Live:=gx [(3,[(1,none),(2,none),(3,none),(4,none),(3,some 37)]),(7,[(1,none),(2,none),(3,none),(5,none),(3,some 37),(3,some 1048746)])]
def md (a0:ak):ak:=a0
def gd (a0:ak):Prop:=(ak.Sm (2^21) a0)
def R:=RR gd md
def aj {a0}(h:gd a0):R (ak.r a0)=some (ak.r a0):=cO h
def aK:=CN [.agg vF] (.agg f36) RT.dec R
def bn (a0)(H0:gd a0):∃n,start (iter step n) (ak.r a0)=ret (ak.r (md a0)):=by
 have Bh2:=bl H0.1
 refine ex_eq (out:=(fun b:ak=>ret ((ak.r b):aW))) (gW (xs:=a0.aH) (z:=[]) (t:=fun s3:List (List aa)=>(⟨s3,a0.bg⟩:ak))) (dc fz ?_)
 refine bH (pt:=fun (i1:Nat) (s3:List (List aa))=>Pt.p0 (i1:Int) (ak.r a0) (s3.map (eF aa.row))) (s:=([]:List (List aa))) (out:=(fun b:ak=>ret ((ak.r b):aW))) (fun (i1:Nat) (s3:List (List aa))=>s3.length<=([]:List Int).length+1*i1) (fun J i1 s3 h2 hih2=>?_) (fun s3 hih2=>?_) (by simp)
 ·simp only [step,SS]
  have gr_:=hih2
  simp only [LN] at gr_
  have:=(H0.1).1
  refine aP.yes dt (aP.yes bu ?_)
  refine aP.yes (bK h2) (cr (Z72.aj (bf.getD H0.1 h2)) ?_)
  refine aP.yes lm ?_
  refine aP.inl (by
    (simp;omega)) ?_
  rw [aF h2 Bh2]
  exact fz
 ·simp only [step,SS]
  refine cH dn ?_
  have Bh5:=bl H0.2
  refine ex_eq (out:=(fun b:ak=>ret ((ak.r b):aW))) (gW (xs:=a0.bg) (z:=aM.zero) (t:=fun s6:List aM=>(⟨s3,s6⟩:ak))) (dc fz ?_)
  refine bH (pt:=fun (i4:Nat) (s6:List aM)=>Pt.p1 (i4:Int) (ak.r a0) (s3.map (eF aa.row)) (s6.map aM.row)) (s:=([]:List aM)) (out:=(fun b:ak=>ret ((ak.r b):aW))) (fun (i4:Nat) (s6:List aM)=>s6.length<=([]:List Int).length+1*i4) (fun J i4 s6 h5 hih5=>?_) (fun s6 hih5=>?_) (by simp)
  ·simp only [step,SS]
   have gr_:=hih5
   simp only [LN] at gr_
   have:=(H0.2).1
   refine aP.yes dt (aP.yes bu ?_)
   refine aP.yes (bK h5) (cr (Z86.aj (bf.getD H0.2 h5)) ?_)
   refine aP.yes lm ?_
   refine aP.inl (by
     (simp;omega)) ?_
   rw [aF h5 Bh5]
   exact fz
  ·simp only [step,SS]
   refine cH dn (⟨0,?_⟩)
   exact fz
def af:bZ 120 aK:=L1 44 pid cF dN live step start mix aA bn (eS Z72.af Z86.af) Tryz.func120
end Z87
namespace Z88
inductive Pt where
 | p0 (a b:Int) (c:aW)
def cF:Pt->List V
 | .p0 a b c=>[.int .i64 a,.bN 0 0,.int .i64 b]
def dN:Pt->List aL
 | .p0 a b c=>[.box [.sl none 37 c.aH,.sl none 170 c.bg]]
def step (J:Pt->aC):Pt->aC
 | .p0 a b c=>(cond (b<(c.aH.length:Int)) (m2 b (c.aH.length:Int) (cond (((jo c.aH (toNat b)).length:Int)>0) (m2 b (c.aH.length:Int) (ck ((0:Int)<((jo c.aH (toNat b)).length:Int)) (cond ((aY.at (jo c.aH (toNat b)) 0).aq.aS==a) (ret (b:Int)) (J (.p0 a (i64.wrap (b+1)) c))))) (J (.p0 a (i64.wrap (b+1)) c)))) mG)
def start (J:Pt->aC)(x0:aW)(x1:Int):aC:=J (.p0 x1 0 x0)
def live:Nat->Live:=gx [(2,iR [1,2,5])]
def md (a0:ak)(a1:Int):Int:=(dD (S:=Unit) (β:=Int) (fun i1 (y1:List aa) s3=>(cond ((y1.length:Int)>0) (cond (((y1.getD 0 aa.zero).aq).aS==a1) (.inr (i1)) (.inl ())) (.inl ()))) (fun s3=>((-1):Int)) 0 a0.aH ())
def gd (a0:ak)(a1:Int):Prop:=(ak.Sm (2^21) a0)
def R:=cL gd md
def aj {a0 a1}(h:gd a0 a1):R ((ak.r a0),a1)=some (md a0 a1):=cK h
def aK:=CN [.agg vF,pI] oI RT.dec R
def bn (a0)(a1)(H0:gd a0 a1):∃n,start (iter step n) (ak.r a0) a1=ret (md a0 a1):=by
 have Bh2:=bl H0.1
 refine ex_eq (cC (z:=[])) (dc fz ?_)
 refine bH (pt:=fun (i1:Nat) (s3:Unit)=>Pt.p0 a1 (i1:Int) (ak.r a0)) (fun _ _=>True) (fun J i1 s3 h2 hih2=>?_) (fun s3 hih2=>?_) trivial
 ·simp only [step,SS]
  refine aP.yes dt (aP.yes bu ?_)
  refine aP.yes (bK h2) (aP.bif (fun c4=>?_) (fun c4=>?_))
  ·have dc4:=c4
   simp only [DC] at dc4
   refine aP.yes bu (aP.yes (bK h2) ?_)
   refine aP.yes (have:=((bf.getD (z:=[]) H0.1 h2)).1;dt) (aP.bif (fun c5=>aP.inr fz) (fun c5=>?_))
   refine aP.inl trivial ?_
   rw [aF h2 Bh2]
  ·refine aP.inl trivial ?_
   rw [aF h2 Bh2]
 ·simp only [step,SS]
  refine cH dn (⟨0,?_⟩)
  exact fz
def af:bZ 122 aK:=L2 34 (fun _=>2) cF dN live step start mix aA bn .nil Tryz.func122
def fa (a0:ak)(a1:Int):-1<=md a0 a1/\md a0 a1<(a0.aH.length:Int):=by
 refine jN ?_ _ _
 all_goals
  intro i x s b h
  revert h
  simp only [Bool.cond_eq_ite]
  repeat' split
  all_goals (intro h;first | (cases h;rfl) | cases h)
end Z88
namespace Z89
def F (x0 x1:bL):aC:=(call (Z39.R x0) fun v1=>(call (Z39.R x1) fun v2=>(call (Z52.R (v1,v2)) fun v3=>(cond v3 (ret ((x0.bk==x1.bk))) (ret false)))))
def md (a0 a1:au):Bool:=(cond (Z52.md (Z39.md a0) (Z39.md a1)) ((a0.bk==a1.bk)) false)
def gd (a0 a1:au):Prop:=(au.Sm (2^21) a0)/\(au.Sm (2^21) a1)
def R:=cL gd md
def aj {a0 a1}(h:gd a0 a1):R ((au.r a0),(au.r a1))=some (md a0 a1):=cK h
def aK:=CN [.agg lC,.agg lC] oB RT.dec R
def bn (a0)(a1)(hg:gd a0 a1):F (au.r a0) (au.r a1)=ret (md a0 a1):=by
 obtain ⟨H0,H1⟩:=hg
 refine ct (Z39.aj H0) (ct (Z39.aj H1) ?_)
 refine ct (Z52.aj ⟨⟨(have:=Z39.len a0;have:=(H0.1).1;have:=(H0.2.1).1;have:=(H0.2.2).1;om),fun _ _=>trivial⟩,⟨(have:=Z39.len a1;have:=(H1.1).1;have:=(H1.2.1).1;have:=(H1.2.2).1;om),fun _ _=>trivial⟩⟩) (bs (fun c1=>?_) (fun _=>rfl))
 exact fz
def af:bZ 216 aK:=W2 17 F mix aA bn (eS Z39.af Z52.af) Tryz.func216
def md_eq (a0 a1:au):md a0 a1=iM a0 a1:=by
 unfold md
 simp only [Z52.md_eq,bool_beq]
 rw [Bool.eq_iff_iff]
 constructor
 ·intro h
  cases he:iM (Z39.md a0) (Z39.md a1)<;>rw [he] at h
  ·cases h
  ·exact dM.2 (Z39.inj (dM.1 he))
 ·intro h
  rw [dM] at h
  rw [h,qd,qd];rfl
end Z89
namespace Z90
inductive Pt where
 | p0 (a b:an) (c:Int)
def cF:Pt->List V
 | .p0 a b c=>[.sl none 53 a,.sl none 53 b,.int .i64 c]
def step (J:Pt->aC):Pt->aC
 | .p0 a b c=>(cond (c<(a.length:Int)) (m2 c (a.length:Int) (m2 c (b.length:Int) (call (Z89.R ((aY.at a (toNat c)).aq,(aY.at b (toNat c)).aq)) fun v1=>(cond (!v1) fq (J (.p0 a b (i64.wrap (c+1)))))))) nN)
def start (J:Pt->aC)(x0 x1:an):aC:=(cond (x0.length>(x1.length:Int)) (ret false) (J (.p0 x0 x1 0)))
def live:Nat->Live:=gx [(4,iR [0,1,5])]
def md (a0 a1:List aa):Bool:=(bif (decide (a0.length>(a1.length:Int))) then false else (eu (S:=Unit) (β:=Bool) (fun i2 s4=>(cond (!(Z89.md ((a0.getD i2 aa.zero).aq) ((a1.getD i2 aa.zero).aq))) (.inr false) (.inl ()))) (fun s4=>true) a0.length 0 ()))
def gd (a0 a1:List aa):Prop:=(bf (2^21) (fun y:aa=>aa.Sm (2^21) y) a0)/\(bf (2^21) (fun y:aa=>aa.Sm (2^21) y) a1)
def R:=cL gd md
def aj {a0 a1}(h:gd a0 a1):R ((a0.map aa.row),(a1.map aa.row))=some (md a0 a1):=cK h
def aK:=CN [pL 53,pL 53] oB RT.dec R
def bn (a0)(a1)(hg:gd a0 a1):∃n,start (iter step n) (a0.map aa.row) (a1.map aa.row)=ret (md a0 a1):=by
 obtain ⟨H0,H1⟩:=hg
 unfold start md
 simp only [SS]
 refine gB ret (fun _=>⟨0,rfl⟩) (fun c1=>?_)
 have dc1:=c1
 simp only [DC] at dc1
 have Bh3:=bl H0
 refine dc fz (bH (pt:=fun (i2:Nat) (s4:Unit)=>Pt.p0 (a0.map aa.row) (a1.map aa.row) (i2:Int)) (fun _ _=>True) (fun J i2 s4 h3 hih3=>?_) (fun s4 hih3=>?_) trivial)
 ·simp only [step,SS]
  refine aP.yes dt (aP.yes bu ?_)
  refine aP.yes (bK h3) (aP.yes bu ?_)
  refine aP.yes dt (cr (Z89.aj ⟨(bf.getD H0 h3).1,(bf.getD H1 (by omega)).1⟩) ?_)
  refine aP.bif (fun _=>aP.inr rfl) (fun c5=>?_)
  refine aP.inl trivial ?_
  rw [aF h3 Bh3]
 ·simp only [step,SS]
  refine cH dn (⟨0,?_⟩)
  exact fz
def af:bZ 171 aK:=L2 29 (fun _=>4) cF (fun _=>[]) live step start mix aA bn (cM Z89.af) Tryz.func171
end Z90
namespace Z91
def F (x0:aW)(x1:an):aC:=(call (Z60.R x1) fun v1=>(cond (!v1) (ret (6:Int)) (ck ((0:Int)<x1.length) (call (Z88.R (x0,(aY.at x1 0).aq.aS)) fun v2=>(cond (v2<0) (ret (1:Int)) (m2 v2 x0.aH.length (call (Z90.R ((jo x0.aH (toNat v2)),x1)) fun v3=>(m2 v2 x0.aH.length (call (Z90.R (x1,(jo x0.aH (toNat v2)))) fun v4=>(cond v3 (cond v4 (ret (2:Int)) (cond v3 (ret (3:Int)) (cond v4 (ret (4:Int)) (ret (5:Int))))) (cond v3 (ret (3:Int)) (cond v4 (ret (4:Int)) (ret (5:Int))))))))))))))
def md (a0:ak)(a1:List aa):Int:=(cond (!(Z60.md a1)) (6:Int) (cond ((Z88.md a0 (((a1.getD 0 aa.zero).aq).aS))<0) (1:Int) (cond (Z90.md (a0.aH.getD (toNat (Z88.md a0 (((a1.getD 0 aa.zero).aq).aS))) []) a1) (cond (Z90.md a1 (a0.aH.getD (toNat (Z88.md a0 (((a1.getD 0 aa.zero).aq).aS))) [])) (2:Int) (cond (Z90.md (a0.aH.getD (toNat (Z88.md a0 (((a1.getD 0 aa.zero).aq).aS))) []) a1) (3:Int) (cond (Z90.md a1 (a0.aH.getD (toNat (Z88.md a0 (((a1.getD 0 aa.zero).aq).aS))) [])) (4:Int) (5:Int)))) (cond (Z90.md (a0.aH.getD (toNat (Z88.md a0 (((a1.getD 0 aa.zero).aq).aS))) []) a1) (3:Int) (cond (Z90.md a1 (a0.aH.getD (toNat (Z88.md a0 (((a1.getD 0 aa.zero).aq).aS))) [])) (4:Int) (5:Int))))))
def gd (a0:ak)(a1:List aa):Prop:=(ak.Sm (2^21) a0)/\(bf (2^21) (fun y:aa=>aa.Sm (2^21) y) a1)
def R:=cL gd md
def aj {a0 a1}(h:gd a0 a1):R ((ak.r a0),(a1.map aa.row))=some (md a0 a1):=cK h
def aK:=CN [.agg vF,pL 53] oI RT.dec R
def bn (a0)(a1)(hg:gd a0 a1):F (ak.r a0) (a1.map aa.row)=ret (md a0 a1):=by
 obtain ⟨H0,H1⟩:=hg
 unfold F md
 simp only [SS]
 refine ct (Z60.aj H1) (bs (fun _=>rfl) (fun c1=>?_))
 have tc1:=Z60.tr (by simpa using c1)
 refine aG dt (ct (Z88.aj H0) ?_)
 have fv2_:=Z88.fa a0 (((a1.getD 0 aa.zero).aq).aS)
 refine bs (fun _=>rfl) (fun c2=>?_)
 have dc2:=c2
 simp only [DC] at dc2
 refine aG dt (aG (have:=(H0.1).1;dt) ?_)
 refine ct (Z90.aj ⟨(bf.getD H0.1 (by omega)),H1⟩) (aG dt ?_)
 refine aG (have:=(H0.1).1;dt) (ct (Z90.aj ⟨H1,(bf.getD H0.1 (by omega))⟩) ?_)
 refine bs (fun c3=>?_) (fun c3=>?_)
 ·refine bs (fun _=>rfl) (fun c4=>?_)
  refine bs (fun _=>rfl) (fun c5=>?_)
  refine bs (fun _=>rfl) (fun _=>rfl)
 ·refine bs (fun _=>rfl) (fun c7=>?_)
  refine bs (fun _=>rfl) (fun _=>rfl)
def af:bZ 52 aK:=W2 43 F mix aA bn (jw Z60.af Z88.af Z90.af) Tryz.func52
def fa (a0:ak)(a1:List aa):(md a0 a1=3->1<=a1.length/\0<=Z88.md a0 (a1.getD 0 aa.zero).aq.aS)/\(md a0 a1=5->1<=a1.length/\0<=Z88.md a0 (a1.getD 0 aa.zero).aq.aS):=by
 unfold md
 cases h:Z60.md a1
 ·exact ⟨fun h=>by simp at h,fun h=>by simp at h⟩
 ·have t:=Z60.tr h
  cases hf:decide (Z88.md a0 ((a1.getD 0 aa.zero).aq.aS)<0)
  ·have:=of_decide_eq_false hf
   exact ⟨fun _=>⟨t.1,by omega⟩,fun _=>⟨t.1,by omega⟩⟩
  ·exact ⟨fun h=>by simp at h,fun h=>by simp at h⟩
end Z91
namespace Z92
inductive Pt where
 | p0 (a b:an) (c d e f g h i j k l m n o:Int) (p:Bool) (q s t u v w y z w24 w25 w26 w27:Int) (w28:Bool) (w29 w30 w31 w32 w33 w34 w35 w36 w37 w38 w39 w40:Int) (w41:Bool)
def cF:Pt->List V
 | .p0 a b c d e f g h i j k l m n o p q s t u v w y z w24 w25 w26 w27 w28 w29 w30 w31 w32 w33 w34 w35 w36 w37 w38 w39 w40 w41=>[.sl none 53 a,.sl none 53 b,.bN 0 0,.int .i64 c]
def dN:Pt->List aL
 | .p0 a b c d e f g h i j k l m n o p q s t u v w y z w24 w25 w26 w27 w28 w29 w30 w31 w32 w33 w34 w35 w36 w37 w38 w39 w40 w41=>[.box [.int .i64 d,.int .i64 e,.int .i64 f,.int .i64 g,.int .i64 h,.int .i64 i,.int .i64 j,.int .i64 k,.nil,.int .i64 l,.nil,.int .i64 m,.int .i64 n,.nil,.int .i64 o,.bool p,.nil,.int .i64 q,.int .i64 s,.int .i64 t,.int .i64 u,.int .i64 v,.int .i64 w,.int .i64 y,.int .i64 z,.nil,.int .i64 w24,.nil,.int .i64 w25,.int .i64 w26,.nil,.int .i64 w27,.bool w28,.nil,.int .i64 w29,.int .i64 w30,.int .i64 w31,.int .i64 w32,.int .i64 w33,.int .i64 w34,.int .i64 w35,.int .i64 w36,.nil,.int .i64 w37,.nil,.int .i64 w38,.int .i64 w39,.nil,.int .i64 w40,.bool w41,.nil]]
def step (J:Pt->aC):Pt->aC
 | .p0 a b c d e f g h i j k l m n o p q s t u v w y z w24 w25 w26 w27 w28 w29 w30 w31 w32 w33 w34 w35 w36 w37 w38 w39 w40 w41=>(cond (c<(a.length:Int)) (cond (c<(b.length:Int)) (m2 c (a.length:Int) (m2 c (b.length:Int) (call (Z89.R ((aY.at a (toNat c)).aq,(aY.at b (toNat c)).aq)) fun v1=>(cond v1 (J (.p0 a b (i64.wrap (c+1)) d e f g h i j k l m n o p q s t u v w y z w24 w25 w26 w27 w28 w29 w30 w31 w32 w33 w34 w35 w36 w37 w38 w39 w40 w41)) (m2 c (a.length:Int) (call (Z71.R (aY.at a (toNat c))) fun v2=>(m2 c (b.length:Int) (call (Z71.R (aY.at b (toNat c))) fun v3=>(cond (c>0) (ck ((0:Int)<=(i64.wrap (c - 1))) (ck ((i64.wrap (c - 1))<(a.length:Int)) (call (Z71.R (aY.at a (toNat (i64.wrap (c - 1))))) fun v4=>ret (((⟨v4,v2,v3⟩:cB),true):cB×Bool)))) (ret (((⟨(⟨(⟨0,0,0,0,0,0,0,0,(⟨[],0⟩:cV),(⟨[],0⟩:cV),0,(⟨[],0⟩:cV),false⟩:bL),[]⟩:aY),v2,v3⟩:cB),true):cB×Bool))))))))))) (m2 c (a.length:Int) (call (Z71.R (aY.at a (toNat c))) fun v5=>(m2 c (b.length:Int) (call (Z71.R (aY.at b (toNat c))) fun v6=>(cond (c>0) (ck ((0:Int)<=(i64.wrap (c - 1))) (ck ((i64.wrap (c - 1))<(a.length:Int)) (call (Z71.R (aY.at a (toNat (i64.wrap (c - 1))))) fun v7=>ret (((⟨v7,v5,v6⟩:cB),true):cB×Bool)))) (ret (((⟨(⟨(⟨0,0,0,0,0,0,0,0,(⟨[],0⟩:cV),(⟨[],0⟩:cV),0,(⟨[],0⟩:cV),false⟩:bL),[]⟩:aY),v5,v6⟩:cB),true):cB×Bool)))))))) (m2 c (a.length:Int) (call (Z71.R (aY.at a (toNat c))) fun v8=>(m2 c (b.length:Int) (call (Z71.R (aY.at b (toNat c))) fun v9=>(cond (c>0) (ck ((0:Int)<=(i64.wrap (c - 1))) (ck ((i64.wrap (c - 1))<(a.length:Int)) (call (Z71.R (aY.at a (toNat (i64.wrap (c - 1))))) fun v10=>ret (((⟨v10,v8,v9⟩:cB),true):cB×Bool)))) (ret (((⟨(⟨(⟨0,0,0,0,0,0,0,0,(⟨[],0⟩:cV),(⟨[],0⟩:cV),0,(⟨[],0⟩:cV),false⟩:bL),[]⟩:aY),v8,v9⟩:cB),true):cB×Bool))))))))
def start (J:Pt->aC)(x0 x1:an):aC:=(call (Z60.R x0) fun v1=>(cond (!v1) (ret (((⟨(⟨(⟨0,0,0,0,0,0,0,0,(⟨[],0⟩),(⟨[],0⟩),0,(⟨[],0⟩),false⟩),[]⟩),(⟨(⟨0,0,0,0,0,0,0,0,(⟨[],0⟩),(⟨[],0⟩),0,(⟨[],0⟩),false⟩),[]⟩),(⟨(⟨0,0,0,0,0,0,0,0,(⟨[],0⟩),(⟨[],0⟩),0,(⟨[],0⟩),false⟩),[]⟩)⟩),false):cB×Bool)) (call (Z60.R x1) fun v2=>(cond (!v2) (ret (((⟨(⟨(⟨0,0,0,0,0,0,0,0,(⟨[],0⟩),(⟨[],0⟩),0,(⟨[],0⟩),false⟩),[]⟩),(⟨(⟨0,0,0,0,0,0,0,0,(⟨[],0⟩),(⟨[],0⟩),0,(⟨[],0⟩),false⟩),[]⟩),(⟨(⟨0,0,0,0,0,0,0,0,(⟨[],0⟩),(⟨[],0⟩),0,(⟨[],0⟩),false⟩),[]⟩)⟩),false):cB×Bool)) (ck ((0:Int)<x0.length) (ck ((0:Int)<x1.length) (cond ((aY.at x0 0).aq.aS != (aY.at x1 0).aq.aS) (ret (((⟨(⟨(⟨0,0,0,0,0,0,0,0,(⟨[],0⟩),(⟨[],0⟩),0,(⟨[],0⟩),false⟩),[]⟩),(⟨(⟨0,0,0,0,0,0,0,0,(⟨[],0⟩),(⟨[],0⟩),0,(⟨[],0⟩),false⟩),[]⟩),(⟨(⟨0,0,0,0,0,0,0,0,(⟨[],0⟩),(⟨[],0⟩),0,(⟨[],0⟩),false⟩),[]⟩)⟩),false):cB×Bool)) (call (Z90.R (x0,x1)) fun v3=>(cond v3 (ret (((⟨(⟨(⟨0,0,0,0,0,0,0,0,(⟨[],0⟩),(⟨[],0⟩),0,(⟨[],0⟩),false⟩),[]⟩),(⟨(⟨0,0,0,0,0,0,0,0,(⟨[],0⟩),(⟨[],0⟩),0,(⟨[],0⟩),false⟩),[]⟩),(⟨(⟨0,0,0,0,0,0,0,0,(⟨[],0⟩),(⟨[],0⟩),0,(⟨[],0⟩),false⟩),[]⟩)⟩),false):cB×Bool)) (call (Z90.R (x1,x0)) fun v4=>(cond v4 (ret (((⟨(⟨(⟨0,0,0,0,0,0,0,0,(⟨[],0⟩),(⟨[],0⟩),0,(⟨[],0⟩),false⟩),[]⟩),(⟨(⟨0,0,0,0,0,0,0,0,(⟨[],0⟩),(⟨[],0⟩),0,(⟨[],0⟩),false⟩),[]⟩),(⟨(⟨0,0,0,0,0,0,0,0,(⟨[],0⟩),(⟨[],0⟩),0,(⟨[],0⟩),false⟩),[]⟩)⟩),false):cB×Bool)) (J (.p0 x0 x1 0 0 0 0 0 0 0 0 0 0 0 0 0 false 0 0 0 0 0 0 0 0 0 0 0 0 false 0 0 0 0 0 0 0 0 0 0 0 0 false)))))))))))))
def live:Nat->Live:=gx [(4,iR [0,1,4,6])]
def pt (a b:an)(c:Int):Pt:=Pt.p0 a b c 0 0 0 0 0 0 0 0 0 0 0 0 false 0 0 0 0 0 0 0 0 0 0 0 0 false 0 0 0 0 0 0 0 0 0 0 0 0 false
def fk:List aa->List aa->Nat
 | x::xs,y::ys=>bif Z89.md x.aq y.aq then fk xs ys+1 else 0
 | _,_=>0
def rS:∀a b:List aa,(∀i,i<fk a b->Z89.md (a.getD i aa.zero).aq (b.getD i aa.zero).aq=true)/\
    ((fk a b<a.length/\fk a b<b.length/\Z89.md (a.getD (fk a b) aa.zero).aq (b.getD (fk a b) aa.zero).aq=false)∨
     (a.length<=b.length/\∀i,i<a.length->Z89.md (a.getD i aa.zero).aq (b.getD i aa.zero).aq=true)∨
     (b.length<=a.length/\∀i,i<b.length->Z89.md (a.getD i aa.zero).aq (b.getD i aa.zero).aq=true))
  | [],b=>⟨fun i hi=>by simp [fk] at hi,.inr (.inl ⟨zero_le _,fun i hi=>by simp at hi⟩)⟩
  | x::xs,[]=>⟨fun i hi=>by simp [fk] at hi,.inr (.inr ⟨zero_le _,fun i hi=>by simp at hi⟩)⟩
  | x::xs,y::ys=>by
    obtain ⟨h1,h2⟩:=rS xs ys
    cases h:Z89.md x.aq y.aq
    · have e:fk (x::xs) (y::ys)=0:=by simp [fk,h]
      rw [e]
      exact ⟨fun i hi=>by omega,.inl ⟨by simp,by simp,h⟩⟩
    · have e:fk (x::xs) (y::ys)=fk xs ys+1:=by simp [fk,h]
      rw [e]
      have up:∀{m:Nat},(∀i,i<m->Z89.md (xs.getD i aa.zero).aq (ys.getD i aa.zero).aq=true)->∀i,i<m+1->Z89.md ((x::xs).getD i aa.zero).aq ((y::ys).getD i aa.zero).aq=true:=by
        intro m hm i hi
        cases i with
        | zero=>exact h
        | succ i=>exact hm i (by omega)
      refine ⟨up h1,?_⟩
      rcases h2 with ⟨a,b,c⟩ | ⟨a,b⟩ | ⟨a,b⟩
      · exact .inl ⟨by simpa using a,by simpa using b,c⟩
      · exact .inr (.inl ⟨by simpa using a,up b⟩)
      · exact .inr (.inr ⟨by simpa using a,up b⟩)
def AZ {a b:List aa}(hl:a.length<=b.length)(h:∀i,i<a.length->Z89.md (a.getD i aa.zero).aq (b.getD i aa.zero).aq=true):Z90.md a b=true:=by
 unfold Z90.md
 rw [decide_eq_false (by omega),aU]
 refine (jP (fun i=>Z89.md (a.getD i aa.zero).aq (b.getD i aa.zero).aq=true) (fun i _ hi=>?_) (fun i _ hi=>?_)).2 ⟨h,rfl⟩
 ·simp only [hi,Bool.not_true,aU]
 ·rw [Bool.not_eq_true] at hi
  simp only [hi,Bool.not_false,aO]
def eq_comm {a b:au}(h:Z89.md a b=true):Z89.md b a=true:=by
 rw [Z89.md_eq,dM] at h ⊢
 exact h.symm
def qe {a b:List aa}(h1:Z90.md a b=false)(h2:Z90.md b a=false):fk a b<a.length/\fk a b<b.length/\Z89.md (a.getD (fk a b) aa.zero).aq (b.getD (fk a b) aa.zero).aq=false:=by
 rcases (rS a b).2 with h | ⟨h3,h4⟩ | ⟨h3,h4⟩
 ·exact h
 ·rw [AZ h3 h4] at h1;cases h1
 ·rw [AZ h3 fun i hi=>eq_comm (h4 i hi)] at h2;cases h2
def BR (a b:List aa):Nat->aM
 | 0=>⟨aa.zero,a.getD 0 aa.zero,b.getD 0 aa.zero⟩
 | k+1=>⟨a.getD k aa.zero,a.getD (k+1) aa.zero,b.getD (k+1) aa.zero⟩
def yZ {a b:List aa}(h0:bf (2^21) (fun y:aa=>aa.Sm (2^21) y) a)(h1:bf (2^21) (fun y:aa=>aa.Sm (2^21) y) b){k:Nat}(hk:k<a.length)(hk2:k<b.length):aM.Sm (2^21) (BR a b k):=by
 cases k with
 | zero=>exact ⟨⟨⟨bf.nil,bf.nil,bf.nil⟩,bf.nil⟩,bf.getD h0 hk,bf.getD h1 hk2⟩
 | succ k=>exact ⟨bf.getD h0 (by omega),bf.getD h0 hk,bf.getD h1 hk2⟩
def md (a0 a1:List aa):aM×Bool:=(cond (!(Z60.md a0)) (aM.zero,false) (cond (!(Z60.md a1)) (aM.zero,false) (cond (((a0.getD 0 aa.zero).aq).aS != ((a1.getD 0 aa.zero).aq).aS) (aM.zero,false) (cond (Z90.md a0 a1) (aM.zero,false) (cond (Z90.md a1 a0) (aM.zero,false) (BR a0 a1 (fk a0 a1),true))))))
def gd (a0 a1:List aa):Prop:=bf (2^21) (fun y:aa=>aa.Sm (2^21) y) a0/\bf (2^21) (fun y:aa=>aa.Sm (2^21) y) a1
def R:=cL gd md
def aj {a0 a1}(h:gd a0 a1):R ((a0.map aa.row),(a1.map aa.row))=some ((aM.r (md a0 a1).1),(md a0 a1).2):=cK h
def aK:=CN [pL 53,pL 53] (.gS [(true,f170),(false,[fB])]) RT.dec R
def bn (a0)(a1)(hg:gd a0 a1):∃n,start (iter step n) (a0.map aa.row) (a1.map aa.row)=ret ((aM.r (md a0 a1).1),(md a0 a1).2):=by
 obtain ⟨H0,H1⟩:=hg
 have hl1:=H1.1
 have key:fk a0 a1<a0.length->fk a0 a1<a1.length->Z89.md (a0.getD (fk a0 a1) aa.zero).aq (a1.getD (fk a0 a1) aa.zero).aq=false->∀d k,k+d=fk a0 a1->∃n,iter step n (pt (a0.map aa.row) (a1.map aa.row) (k:Int))=ret ((aM.r (BR a0 a1 (fk a0 a1)),true):cB×Bool):=by
  intro hn0 hn1 hne d
  have hR:∀k,k<a0.length->k<a1.length->Z89.R (au.r (a0.getD k aa.zero).aq,au.r (a1.getD k aa.zero).aq)=some (Z89.md (a0.getD k aa.zero).aq (a1.getD k aa.zero).aq):=by
   intro k h0 h1
   rw [Z89.aj ⟨(bf.getD H0 h0).1,(bf.getD H1 h1).1⟩]
  induction d with
  | zero=>
   intro k hk
   obtain rfl:k=fk a0 a1:=by omega
   generalize hkk:fk a0 a1=k at hn0 hn1 hne ⊢
   refine ⟨1,?_⟩
   show step (iter step 0) _=_
   have q1:(0:Int)<=(k:Int):=by omega
   have q2:(k:Int)<(a0.length:Int):=by omega
   have q3:(k:Int)<(a1.length:Int):=by omega
   simp only [pt,step,MM,S0,aa.rs,au.rs,q1,q2,q3,decide_true,aO]
   rw [call_eq (hR k hn0 hn1),hne,aU,call_eq (Z71.aj (bf.getD H0 hn0)),call_eq (Z71.aj (bf.getD H1 hn1))]
   cases k with
   | zero=>rfl
   | succ k=>
    have q4:((k+1:Nat):Int)>0:=by omega
    have q5:i64.wrap (((k+1:Nat):Int) - 1)=(k:Int):=by rw [wi _ (by omega)];omega
    have q6:(0:Int)<=(k:Int):=by omega
    have q7:(k:Int)<(a0.length:Int):=by omega
    simp only [q4,q5,q6,q7,decide_true,aO,S0,aa.rs]
    rw [call_eq (Z71.aj (bf.getD H0 (by omega)))]
    rfl
  | succ d ih=>
   intro k hk
   obtain ⟨n,hn⟩:=ih (k+1) (by omega)
   refine ⟨n+1,?_⟩
   show step (iter step n) _=_
   have q1:(0:Int)<=(k:Int):=by omega
   have q2:(k:Int)<(a0.length:Int):=by omega
   have q3:(k:Int)<(a1.length:Int):=by omega
   simp only [pt,step,MM,S0,aa.rs,au.rs,q1,q2,q3,decide_true,aO]
   rw [call_eq (hR k (by omega) (by omega)),(rS a0 a1).1 k (by omega),aO,wi _ (by omega)]
   exact hn
 unfold start md
 simp only [S0,aa.rs,au.rs]
 refine eX _ (Z60.aj H0) ?_
 cases hc0:Z60.md a0
 ·exact ⟨0,rfl⟩
 simp only [Bool.not_true,aU]
 refine eX _ (Z60.aj H1) ?_
 cases hc1:Z60.md a1
 ·exact ⟨0,rfl⟩
 have t0:=Z60.tr hc0
 have t1:=Z60.tr hc1
 simp only [Bool.not_true,aU]
 refine dJ (decide_eq_true (by omega)) (dJ (decide_eq_true (by omega)) ?_)
 cases ((a0.getD 0 aa.zero).aq.aS != (a1.getD 0 aa.zero).aq.aS)
 case true=>exact ⟨0,rfl⟩
 simp only [aU]
 refine eX _ (Z90.aj ⟨H0,H1⟩) ?_
 cases hp0:Z90.md a0 a1
 case true=>exact ⟨0,rfl⟩
 simp only [aU]
 refine eX _ (Z90.aj ⟨H1,H0⟩) ?_
 cases hp1:Z90.md a1 a0
 case true=>exact ⟨0,rfl⟩
 simp only [aU]
 obtain ⟨h1,h2,h3⟩:=qe hp0 hp1
 exact key h1 h2 h3 (fk a0 a1) 0 (by omega)
def af:bZ 123 aK:=L2 86 (fun _=>4) cF dN live step start mix aA bn (nQ Z60.af Z90.af Z89.af Z71.af) Tryz.func123
def fc {a0 a1:List aa}(hg:gd a0 a1):aM.Sm (2^21) ((md a0 a1).1):=by
 unfold gd at hg;unfold md
 have z:aM.Sm (2^21) aM.zero:=⟨⟨⟨bf.nil,bf.nil,bf.nil⟩,bf.nil⟩,⟨⟨bf.nil,bf.nil,bf.nil⟩,bf.nil⟩,⟨⟨bf.nil,bf.nil,bf.nil⟩,bf.nil⟩⟩
 cases Z60.md a0
 ·exact z
 cases Z60.md a1
 ·exact z
 cases ((a0.getD 0 aa.zero).aq.aS != (a1.getD 0 aa.zero).aq.aS)
 case true=>exact z
 cases h1:Z90.md a0 a1
 case true=>exact z
 cases h2:Z90.md a1 a0
 case true=>exact z
 obtain ⟨h3,h4,_⟩:=Z92.qe h1 h2
 exact Z92.yZ hg.1 hg.2 h3 h4
end Z92
namespace Z93
def F (x0:aW)(x1:an):aC:=(call (Z87.R x0) fun v1=>(call (Z91.R (x0,x1)) fun v2=>(cond (v2==1) (cond ((x0.aH.length:Int)>=8) (ret ((v1,6):aW×Int)) (call (Z72.R x1) fun v3=>(ck (eG ((v1.aH.length+1)*24)) (ret (((⟨(v1.aH++[[L.sl v3]]),v1.bg⟩),v2):aW×Int))))) (cond (v2==3) (ck ((0:Int)<x1.length) (call (Z88.R (x0,(aY.at x1 0).aq.aS)) fun v4=>(call (Z72.R x1) fun v5=>(m2 v4 v1.aH.length (ret (((⟨(List.set v1.aH (toNat v4) [L.sl v5]),v1.bg⟩),v2):aW×Int)))))) (cond (v2==5) (ck ((0:Int)<x1.length) (call (Z88.R (x0,(aY.at x1 0).aq.aS)) fun v6=>(m2 v6 x0.aH.length (call (Z92.R ((jo x0.aH (toNat v6)),x1)) fun v7=>(cond v7.2 (cond ((x0.bg.length:Int)<8) (ck (eG ((v1.bg.length+1)*600)) (ret (((⟨v1.aH,(v1.bg++[(cB.enc v7.1)])⟩),v2):aW×Int))) (ret ((v1,v2):aW×Int))) (ret ((v1,v2):aW×Int))))))) (ret ((v1,v2):aW×Int)))))))
def md (a0:ak)(a1:List aa):ak×Int:=(cond ((Z91.md a0 a1)==1) (cond ((a0.aH.length:Int)>=8) (a0,6) ((⟨(a0.aH++[a1]),a0.bg⟩),(Z91.md a0 a1))) (cond ((Z91.md a0 a1)==3) ((⟨(List.set a0.aH (toNat (Z88.md a0 (((a1.getD 0 aa.zero).aq).aS))) a1),a0.bg⟩),(Z91.md a0 a1)) (cond ((Z91.md a0 a1)==5) (cond ((Z92.md (a0.aH.getD (toNat (Z88.md a0 (((a1.getD 0 aa.zero).aq).aS))) []) a1).2) (cond ((a0.bg.length:Int)<8) ((⟨a0.aH,(a0.bg++[(Z92.md (a0.aH.getD (toNat (Z88.md a0 (((a1.getD 0 aa.zero).aq).aS))) []) a1).1])⟩),(Z91.md a0 a1)) (a0,(Z91.md a0 a1))) (a0,(Z91.md a0 a1))) (a0,(Z91.md a0 a1)))))
def gd (a0:ak)(a1:List aa):Prop:=(ak.Sm (2^21) a0)/\(bf (2^21) (fun y:aa=>aa.Sm (2^21) y) a1)
def R:=cL gd md
def aj {a0 a1}(h:gd a0 a1):R ((ak.r a0),(a1.map aa.row))=some ((ak.r (md a0 a1).1),(md a0 a1).2):=cK h
def aK:=CN [.agg vF,pL 53] (.gS [(true,f36),(false,[fI])]) RT.dec R
def bn (a0)(a1)(hg:gd a0 a1):F (ak.r a0) (a1.map aa.row)=ret ((ak.r (md a0 a1).1),(md a0 a1).2):=by
 obtain ⟨H0,H1⟩:=hg
 refine ct (Z87.aj H0) ?_
 simp only [SS]
 refine ct (Z91.aj ⟨H0,H1⟩) ?_
 have fv2_:=Z91.fa a0 a1
 refine bP (fun b:ak×Int=>ret (((ak.r b.1),b.2):aW×Int)) (fun c1=>?_) (fun c1=>?_)
 ·refine bP (fun b:ak×Int=>ret (((ak.r b.1),b.2):aW×Int)) (fun c2=>fz) (fun c2=>?_)
  refine ct (Z72.aj H1) (aG (have:=(H0.1).1;lm) ?_)
  exact fz
 ·refine bP (fun b:ak×Int=>ret (((ak.r b.1),b.2):aW×Int)) (fun c3=>?_) (fun c3=>?_)
  ·have dc3:=c3
   simp only [DC] at dc3
   refine aG dt (ct (Z88.aj H0) ?_)
   have fv4_:=Z88.fa a0 (((a1.getD 0 aa.zero).aq).aS)
   refine ct (Z72.aj H1) (aG dt ?_)
   exact aG (have:=(H0.1).1;dt) fz
  ·refine bP (fun b:ak×Int=>ret (((ak.r b.1),b.2):aW×Int)) (fun c4=>?_) (fun c4=>fz)
   have dc4:=c4
   simp only [DC] at dc4
   refine aG dt (ct (Z88.aj H0) ?_)
   have fv6_:=Z88.fa a0 (((a1.getD 0 aa.zero).aq).aS)
   refine aG dt (aG (have:=(H0.1).1;dt) ?_)
   refine ct (Z92.aj ⟨(bf.getD H0.1 (by omega)),H1⟩) (bP (fun b:ak×Int=>ret (((ak.r b.1),b.2):aW×Int)) (fun c5=>?_) (fun c5=>fz))
   exact bP (fun b:ak×Int=>ret (((ak.r b.1),b.2):aW×Int)) (fun c6=>aG (have:=(H0.2).1;lm) fz) (fun c6=>fz)
def af:bZ 23 aK:=W2 77 F mix aA bn (wP Z87.af Z91.af Z72.af Z88.af Z92.af) Tryz.func23
def fc {a0:ak}{a1:List aa}(hg:gd a0 a1):ak.Sm (2^21) ((md a0 a1).1):=by
 unfold gd at hg;unfold md
 obtain ⟨⟨h1,h2⟩,h3⟩:=hg
 simp only [Bool.cond_eq_ite]
 repeat' split
 all_goals (try simp only [decide_eq_true_eq,ge_iff_le] at *)
 all_goals first
  | exact ⟨h1,h2⟩
  | exact ⟨bf.app (a:=7) (b:=1) ⟨by omega,h1.2⟩ (bf.one h3) (by decide),h2⟩
  | exact ⟨bf.set h1 h3,h2⟩
  | exact ⟨h1,bf.app (a:=7) (b:=1) ⟨by omega,h2.2⟩ (bf.one (Z92.fc ⟨bf.yO h1 bf.nil,h3⟩)) (by decide)⟩
end Z93
namespace Z94
inductive Pt where
 | p0 (a:an) (b c d e:Int) (f g h:an)
def pid:Pt->Nat
 | .p0 ..=>3
def cF:Pt->List V
 | .p0 a b c d e f g h=>[.bN 0 0,.sl none 188 a,.own 2,.own 3,.int .i64 b,.int .i64 c]
def dN:Pt->List aL
 | .p0 a b c d e f g h=>[.box [.own 1,.int .i64 d,.int .i64 e],.vw 5 f,.row 232 g,.row 9 h]
def step (J:Pt->aC):Pt->aC
 | .p0 a b c d e f g h=>(cond (c<b) (m2 c (h.length:Int) (call (Z67.R (f,d,e,4)) fun v1=>(cond (!v1.2.2.2) (m2 c (a.length:Int) (call (Z64.R (bT.at a (toNat c))) fun v2=>(ck (eG (((g.length:Int)+1)*24)) (J (.p0 a b (i64.wrap (c+1)) v1.2.1 v1.2.2.1 f (g++[(aX.enc (⟨(rV h (toNat c)),v2⟩:aX))]) h))))) (J (.p0 a b (i64.wrap (c+1)) v1.2.1 v1.2.2.1 f g h))))) (ret ((Hl.mk,d,e,g):Hl×Int×Int×an)))
def start (J:Pt->aC)(x0:an)(x1 x2:Int)(x3:an):aC:=J (.p0 x3 3 0 x1 x2 x0 [] [[L.str (⟨#[109,97,105,110]⟩:az)],[L.str (⟨#[111,108,100]⟩:az)],[L.str (⟨#[102,114,101,101]⟩:az)]])
def live:Nat->Live:=gx [(3,[(0,none),(1,none),(5,some 232),(9,none),(10,none),(11,none)])]
abbrev eI:List K:=[.sl 5,aE,aE]
def pats:List (Option fE):=[none,some (.rd (.sl 188))]
def res:RP:=.one (.fr 232)
abbrev E:Env:={ T:=assoc mq,G:=cW [(144,Z64.aK)],nt:=31,M:=eW [],np:=(nC eI),mt:=false,I:=gp [(142,Z67.ic (nC eI))] }
def step_eq (I:dB)(p:Pt):dU E live I (pid p) (bJ Tryz.f191) (iN (live (pid p)) (cF p) (dN p)) (dz E Tryz.f191 (.cur eI res.parts))=step (fun q=>I (pid q) (cF q) (dN q)) p:=by
 cases p<;>kernel_rfl
def start_eq (I:dB)(ls:List L):gJ E live I (bJ Tryz.f191) (iI eI pats ls) (dz E Tryz.f191 (.cur eI res.parts))=start (fun q=>I (pid q) (cF q) (dN q)) (eM ls) (cI 1 ls) (cI 2 ls) (fJ 3 ls):=by kernel_rfl
def run_eq (n:Nat)(ls:List L):eV E live Tryz.f191 (.cur eI res.parts) n (iI eI pats ls)=start (iter step n) (eM ls) (cI 1 ls) (cI 2 ls) (fJ 3 ls):=dK (id:=pid) (vs:=cF) (hs:=dN) (step:=step) (start:=fun J=>start J (eM ls) (cI 1 ls) (cI 2 ls) (fJ 3 ls)) step_eq (fun I=>start_eq I ls) n
def gd (x0:an)(x1 x2:Int)(x3:an):Prop:=CI x0 x1/\∃zs:List aI,x3=zs.map aI.row/\zs.length=3/\∀z∈zs,Z45.ok z
def post (x0:an)(x1 x2:Int)(x3:an)(y:Hl×Int×Int×an):Prop:=CI x0 y.2.1/\∃m:List aX,y.2.2.2=m.map aX.row/\bf 3 (fun z:aX=>aX.Sm 64 z) m
def wp (x0:an)(x1 x2:Int)(x3:an)(hg:gd x0 x1 x2 x3):∃n,Wp (start (iter step n) x0 x1 x2 x3) (post x0 x1 x2 x3):=by
 obtain ⟨hc,zs,rfl,h3,hz⟩:=hg
 let N:an:=[[L.str (⟨#[109,97,105,110]⟩:az)],[L.str (⟨#[111,108,100]⟩:az)],[L.str (⟨#[102,114,101,101]⟩:az)]]
 refine ⟨5,lM (fun p=>match p with | .p0 a b c d e f g h=>a=zs.map aI.row/\b=3/\0<=c/\c<=3/\CI f d/\f=x0/\h=N/\∃ms:List aX,g=ms.map aX.row/\(ms.length:Int)<=c/\∀s∈ms,aX.Sm 64 s) (fun p=>match p with | .p0 a b c d e f g h=>(3 - c).toNat) (fun J p hI hJ=>?_) _ _ ⟨rfl,rfl,Int.le_refl _,by decide,hc,rfl,rfl,[],rfl,Int.le_refl _,fun _ h=>(nomatch h)⟩ (by show (3 - (0:Int)).toNat<5;decide)⟩
 obtain ⟨a,b,c,d,e,f,g,h⟩:=p
 obtain ⟨rfl,rfl,h1,h2,h4,rfl,rfl,ms,rfl,h6,h7⟩:=hI
 refine wp_cond (fun c1=>?_) (fun c1=>?_)
 ·have c1:=of_decide_eq_true c1
  have e1:i64.wrap (c+1)=c+1:=wi _ (by omega)
  have k0:0<=i64.wrap (c+1):=by omega
  have k3:i64.wrap (c+1)<=3:=by omega
  have km:(3 - i64.wrap (c+1)).toNat<(3 - c).toNat:=by omega
  have hi:c.toNat<zs.length:=by omega
  refine qk h1 (by show c<3;exact c1) (Z67.ep h4 (fun v1 d1=>wp_cond (fun _=>?_) (fun _=>hJ _ ⟨rfl,rfl,k0,k3,d1,rfl,rfl,ms,rfl,by rw [e1];omega,h7⟩ km)))
  refine qk h1 (by rw [List.length_map];omega) ?_
  rw [aI.tw hi]
  refine bW (Z64.aj (a0:=zs[c.toNat]) (aI.dL (by decide) (Z45.AW (hz _ (List.getElem_mem hi))))) (fO (fQ (by rw [List.length_map];omega)) ?_)
  have hs:(rV N c.toNat).size<=64:=lq rfl (by show c.toNat<3;omega)
  refine hJ _ ⟨rfl,rfl,k0,k3,d1,rfl,rfl,ms++[⟨rV N c.toNat,Z64.md zs[c.toNat]⟩],by rw [List.map_append];rfl,by rw [e1];simp;omega,fun s hs2=>?_⟩ km
  rcases List.mem_append.1 hs2 with h | h
  ·exact h7 s h
  ·rw [List.mem_singleton.1 h];exact hs
 ·exact wp_ret ⟨h4,ms,rfl,by omega,h7⟩
def R:(an×Int×Int×an)->Option (Hl×Int×Int×an):=RQ (fun n x=>start (iter step n) x.1 x.2.1 x.2.2.1 x.2.2.2) (fun x=>post x.1 x.2.1 x.2.2.1 x.2.2.2)
def ep {x0:an}{x1 x2:Int}{x3:an}{γ:Type}[RT γ]{k:(Hl×Int×Int×an)->aC}{Q:γ->Prop}(hg:gd x0 x1 x2 x3)(hk:∀y,post x0 x1 x2 x3 y->Wp (k y) Q):Wp (call (R (x0,x1,x2,x3)) k) Q:=fN (wp x0 x1 x2 x3 hg) hk
def acc (ls:List L):an×Int×Int×an:=((eM ls),(cI 1 ls),(cI 2 ls),(fJ 3 ls))
def aK:jX:=CC eI pats res acc R
def af:gL Tryz.prog Ev 191 aK:=VC (live:=live) (mt:=false) mix aA (cM Z64.af) .nil (.cons (Z67.bM (nC eI)) .nil) Tryz.func191 (by kernel_rfl) run_eq
def ic (_:Nat):gy:=kg Ev aK
def bM (n:Nat):dY Tryz.prog Ev n 191 (ic n):=eY af
end Z94
namespace Z95
def F (x0:an)(x1 x2:Int):aC:=(call (Z67.R (x0,x1,x2,4)) fun v1=>(cond v1.2.2.2 (call (Z5.R (x0,v1.2.1,v1.2.2.1,[[L.str (⟨#[]⟩:az)],[L.str (⟨#[45,97]⟩:az)],[L.str (⟨#[97,45]⟩:az)],[L.str (⟨#[65]⟩:az)],[L.str (⟨#[97,46,98]⟩:az)],[L.str (⟨#[97,98,99,100,101,102,103,104]⟩:az)],[L.str (⟨#[97,98,99,100,101,102,103,104,105]⟩:az)],[L.str (⟨#[49,108]⟩:az)],[L.str (⟨#[108,49]⟩:az)],[L.str (⟨#[48]⟩:az)]])) fun v2=>ret ((Hl.mk,v2.2.1,v2.2.2.1,v2.2.2.2):Hl×Int×Int×az)) (call (Z6.R (x0,v1.2.1,v1.2.2.1)) fun v3=>ret ((Hl.mk,v3.2.1,v3.2.2.1,v3.2.2.2):Hl×Int×Int×az))))
abbrev eI:List K:=[.sl 5,aE,aE]
def pats:List (Option fE):=[none]
def res:RP:=.one (.rd (.str))
abbrev E:Env:={ T:=assoc mq,G:=cW [],nt:=10,M:=eW [],np:=(nC eI),mt:=false,I:=gp [(142,Z67.ic (nC eI)),(192,Z5.ic (nC eI)),(237,Z6.ic (nC eI))] }
def run_eq (n:Nat)(ls:List L):eV E (fun _=>[]) Tryz.f201 (.cur eI res.parts) n (iI eI pats ls)=F (eM ls) (cI 1 ls) (cI 2 ls):=by kernel_rfl
def gd (x0:an)(x1 x2:Int):Prop:=CI x0 x1
def post (x0:an)(x1 x2:Int)(y:Hl×Int×Int×az):Prop:=CI x0 y.2.1/\y.2.2.2.size<=16
def wp (x0:an)(x1 x2:Int)(hg:gd x0 x1 x2):Wp (F x0 x1 x2) (post x0 x1 x2):=by
 unfold F
 refine Z67.ep hg (fun v hv=>wp_cond (fun c=>?_) (fun c=>?_))
 ·refine Z5.ep ⟨hv,by show 0<10;decide⟩ (fun w ⟨hw,i,hi,e⟩=>wp_ret ⟨hw,?_⟩)
  show w.2.2.2.size<=16
  rw [e]
  exact lq rfl hi
 ·exact Z6.ep hv (fun w hw=>wp_ret hw)
def R:(an×Int×Int)->Option (Hl×Int×Int×az):=RQ (fun _ x=>F x.1 x.2.1 x.2.2) (fun x=>post x.1 x.2.1 x.2.2)
def ep {x0:an}{x1 x2:Int}{γ:Type}[RT γ]{k:(Hl×Int×Int×az)->aC}{Q:γ->Prop}(hg:gd x0 x1 x2)(hk:∀y,post x0 x1 x2 y->Wp (k y) Q):Wp (call (R (x0,x1,x2)) k) Q:=fN ⟨0,wp x0 x1 x2 hg⟩ hk
def acc (ls:List L):an×Int×Int:=((eM ls),(cI 1 ls),(cI 2 ls))
def aK:jX:=CC eI pats res acc R
def af:gL Tryz.prog Ev 201 aK:=VC (live:=(fun _=>[])) (mt:=false) mix aA .nil .nil (.cons (Z67.bM (nC eI)) (.cons (Z5.bM (nC eI)) (.cons (Z6.bM (nC eI)) .nil))) Tryz.func201 (by kernel_rfl) run_eq
def ic (_:Nat):gy:=kg Ev aK
def bM (n:Nat):dY Tryz.prog Ev n 201 (ic n):=eY af
end Z95
end Go.DM
end
