/- What the functions compute that the law reaches, and that the law returns true. Conditions: none. -/
import Derived.Test.YtcepeleohipibaaGreatLResolvedTy
import Derived.Test.YtcepeleohipibaaGreatProg
import Derived.Lib.AppendZerosOnto
import Derived.Lib.Bytealg
import Derived.Laws.Externs
import Derived.Lib.Walk
import Derived.Lib.Hide
import Derived.Lib.Strings
set_option linter.all false
set_option maxRecDepth 100000
noncomputable section
namespace Go.DM
open Go.Proofs
open Go.IntKind (i64)
open Int (toNat)
open Nat (le_trans zero_le)
abbrev aE:=K.int .i64
abbrev mV:=ret ((-1):Int)
abbrev cI {A B A' B' Z Z':Type}[Im A A'][Im B B'][Im Z Z'](g:A->B->Prop)(m:A->B->Z):=RR (p2 g) (u2 m)
abbrev lP {A B C A' B' C' Z Z':Type}[Im A A'][Im B B'][Im C C'][Im Z Z'](g:A->B->C->Prop)(m:A->B->C->Z):=RR (p3 g) (u3 m)
abbrev tQ {A B C D A' B' C' D' Z Z':Type}[Im A A'][Im B B'][Im C C'][Im D D'][Im Z Z'](g:A->B->C->D->Prop)(m:A->B->C->D->Z):=RR (p4 g) (u4 m)
abbrev sL {A B C D E A' B' C' D' E' Z Z':Type}[Im A A'][Im B B'][Im C C'][Im D D'][Im E E'][Im Z Z'](g:A->B->C->D->E->Prop)(m:A->B->C->D->E->Z):=RR (p5 g) (u5 m)
abbrev eM:=ret (false:Bool)
abbrev nS:=ret (true:Bool)
abbrev QqT (b:Int):Bool:=Nat.beq (toNat b) (toNat b)&&true
def jC (l:List Nat):Live:=l.map fun i=>(i,none)
def gL:List (Nat×Live)->Nat->Live
 | [],_=>[]
 | (k,v)::r,i=>cond (Nat.beq k i) v (gL r i)
section
variable {P:Program} {E:Env} {f1:Nat} {c1:gj} {f2:Nat} {c2:gj} {f3:Nat} {c3:gj} {f4:Nat} {c4:gj} {f5:Nat} {c5:gj} {f6:Nat} {c6:gj} {f7:Nat} {c7:gj} {f8:Nat} {c8:gj} {f9:Nat} {c9:gj} {f10:Nat} {c10:gj} {f11:Nat} {c11:gj} {f12:Nat} {c12:gj}
theorem cO (h1:Valid P E f1 c1):fD P E [(f1,c1)]:=.cons h1 .nil
theorem fc (h1:Valid P E f1 c1)(h2:Valid P E f2 c2):fD P E [(f1,c1),(f2,c2)]:=.cons h1 (cO h2)
theorem jB (h1:Valid P E f1 c1)(h2:Valid P E f2 c2)(h3:Valid P E f3 c3):fD P E [(f1,c1),(f2,c2),(f3,c3)]:=.cons h1 (fc h2 h3)
theorem nP (h1:Valid P E f1 c1)(h2:Valid P E f2 c2)(h3:Valid P E f3 c3)(h4:Valid P E f4 c4):fD P E [(f1,c1),(f2,c2),(f3,c3),(f4,c4)]:=.cons h1 (jB h2 h3 h4)
theorem xC (h1:Valid P E f1 c1)(h2:Valid P E f2 c2)(h3:Valid P E f3 c3)(h4:Valid P E f4 c4)(h5:Valid P E f5 c5):fD P E [(f1,c1),(f2,c2),(f3,c3),(f4,c4),(f5,c5)]:=.cons h1 (nP h2 h3 h4 h5)
theorem vY (h1:Valid P E f1 c1)(h2:Valid P E f2 c2)(h3:Valid P E f3 c3)(h4:Valid P E f4 c4)(h5:Valid P E f5 c5)(h6:Valid P E f6 c6):fD P E [(f1,c1),(f2,c2),(f3,c3),(f4,c4),(f5,c5),(f6,c6)]:=.cons h1 (xC h2 h3 h4 h5 h6)
theorem yd (h1:Valid P E f1 c1)(h2:Valid P E f2 c2)(h3:Valid P E f3 c3)(h4:Valid P E f4 c4)(h5:Valid P E f5 c5)(h6:Valid P E f6 c6)(h7:Valid P E f7 c7):fD P E [(f1,c1),(f2,c2),(f3,c3),(f4,c4),(f5,c5),(f6,c6),(f7,c7)]:=.cons h1 (vY h2 h3 h4 h5 h6 h7)
theorem Ey (h1:Valid P E f1 c1)(h2:Valid P E f2 c2)(h3:Valid P E f3 c3)(h4:Valid P E f4 c4)(h5:Valid P E f5 c5)(h6:Valid P E f6 c6)(h7:Valid P E f7 c7)(h8:Valid P E f8 c8):fD P E [(f1,c1),(f2,c2),(f3,c3),(f4,c4),(f5,c5),(f6,c6),(f7,c7),(f8,c8)]:=.cons h1 (yd h2 h3 h4 h5 h6 h7 h8)
theorem EU (h1:Valid P E f1 c1)(h2:Valid P E f2 c2)(h3:Valid P E f3 c3)(h4:Valid P E f4 c4)(h5:Valid P E f5 c5)(h6:Valid P E f6 c6)(h7:Valid P E f7 c7)(h8:Valid P E f8 c8)(h9:Valid P E f9 c9):fD P E [(f1,c1),(f2,c2),(f3,c3),(f4,c4),(f5,c5),(f6,c6),(f7,c7),(f8,c8),(f9,c9)]:=.cons h1 (Ey h2 h3 h4 h5 h6 h7 h8 h9)
theorem DZ (h1:Valid P E f1 c1)(h2:Valid P E f2 c2)(h3:Valid P E f3 c3)(h4:Valid P E f4 c4)(h5:Valid P E f5 c5)(h6:Valid P E f6 c6)(h7:Valid P E f7 c7)(h8:Valid P E f8 c8)(h9:Valid P E f9 c9)(h10:Valid P E f10 c10):fD P E [(f1,c1),(f2,c2),(f3,c3),(f4,c4),(f5,c5),(f6,c6),(f7,c7),(f8,c8),(f9,c9),(f10,c10)]:=.cons h1 (EU h2 h3 h4 h5 h6 h7 h8 h9 h10)
theorem D2 (h1:Valid P E f1 c1)(h2:Valid P E f2 c2)(h3:Valid P E f3 c3)(h4:Valid P E f4 c4)(h5:Valid P E f5 c5)(h6:Valid P E f6 c6)(h7:Valid P E f7 c7)(h8:Valid P E f8 c8)(h9:Valid P E f9 c9)(h10:Valid P E f10 c10)(h11:Valid P E f11 c11):fD P E [(f1,c1),(f2,c2),(f3,c3),(f4,c4),(f5,c5),(f6,c6),(f7,c7),(f8,c8),(f9,c9),(f10,c10),(f11,c11)]:=.cons h1 (DZ h2 h3 h4 h5 h6 h7 h8 h9 h10 h11)
theorem DN (h1:Valid P E f1 c1)(h2:Valid P E f2 c2)(h3:Valid P E f3 c3)(h4:Valid P E f4 c4)(h5:Valid P E f5 c5)(h6:Valid P E f6 c6)(h7:Valid P E f7 c7)(h8:Valid P E f8 c8)(h9:Valid P E f9 c9)(h10:Valid P E f10 c10)(h11:Valid P E f11 c11)(h12:Valid P E f12 c12):fD P E [(f1,c1),(f2,c2),(f3,c3),(f4,c4),(f5,c5),(f6,c6),(f7,c7),(f8,c8),(f9,c9),(f10,c10),(f11,c11),(f12,c12)]:=.cons h1 (D2 h2 h3 h4 h5 h6 h7 h8 h9 h10 h11 h12)
end
def cQ {A A' Z Z':Type}[Im A A'][Im Z Z']{g:A->Prop}{m:A->Z}{a:A}(h:g a):RR (g) (m) (Im.im a)=some (Im.im (m a):Z'):=xB (a:=(a)) h
def cH {A B A' B' Z Z':Type}[Im A A'][Im B B'][Im Z Z']{g:A->B->Prop}{m:A->B->Z}{a:A}{b:B}(h:g a b):RR (p2 g) (u2 m) ((Im.im a:A'),(Im.im b:B'))=some (Im.im (m a b):Z'):=xB (a:=(a,b)) h
def mq {A B C A' B' C' Z Z':Type}[Im A A'][Im B B'][Im C C'][Im Z Z']{g:A->B->C->Prop}{m:A->B->C->Z}{a:A}{b:B}{c:C}(h:g a b c):RR (p3 g) (u3 m) ((Im.im a:A'),(Im.im b:B'),(Im.im c:C'))=some (Im.im (m a b c):Z'):=xB (a:=(a,b,c)) h
def so {A B C D A' B' C' D' Z Z':Type}[Im A A'][Im B B'][Im C C'][Im D D'][Im Z Z']{g:A->B->C->D->Prop}{m:A->B->C->D->Z}{a:A}{b:B}{c:C}{d:D}(h:g a b c d):RR (p4 g) (u4 m) ((Im.im a:A'),(Im.im b:B'),(Im.im c:C'),(Im.im d:D'))=some (Im.im (m a b c d):Z'):=xB (a:=(a,b,c,d)) h
def sR {A B C D E A' B' C' D' E' Z Z':Type}[Im A A'][Im B B'][Im C C'][Im D D'][Im E E'][Im Z Z']{g:A->B->C->D->E->Prop}{m:A->B->C->D->E->Z}{a:A}{b:B}{c:C}{d:D}{e:E}(h:g a b c d e):RR (p5 g) (u5 m) ((Im.im a:A'),(Im.im b:B'),(Im.im c:C'),(Im.im d:D'),(Im.im e:E'))=some (Im.im (m a b c d e):Z'):=xB (a:=(a,b,c,d,e)) h
abbrev k7:List K:=[aE,aE,.bool,.int .u8]
abbrev f7:List Lf:=[fI,fI,fB,.rd (.int .u8)]
abbrev k8:List K:=[aE,aE,.bool,.int .u8]
abbrev f8:List Lf:=[fI,fI,fB,.rd (.int .u8)]
abbrev tX:List K:=[.str,.int .u64]
abbrev f13:List Lf:=[fS,.rd (.int .u64)]
abbrev tU:List K:=[.str,.int .u64]
abbrev f14:List Lf:=[fS,.rd (.int .u64)]
abbrev FC:List K:=[.sl 37,.sl 170]
abbrev f35:List Lf:=[.fr 37,.fr 170]
abbrev wg:List K:=[.sl 37,.sl 170]
abbrev f36:List Lf:=[.fr 37,.fr 170]
abbrev Fk:List K:=[.sl 3,aE]
abbrev f47:List Lf:=[.fr 3,fI]
abbrev qW:List K:=[.sl 3,aE]
abbrev f48:List Lf:=[.fr 3,fI]
abbrev FD:List K:=[aE,aE,aE,aE,aE,aE,aE,aE,.sl 3,aE,.sl 3,aE,aE,.sl 3,aE,.bool]
abbrev f49:List Lf:=[fI,fI,fI,fI,fI,fI,fI,fI,.fr 3,fI,.fr 3,fI,fI,.fr 3,fI,fB]
abbrev lu:List K:=[aE,aE,aE,aE,aE,aE,aE,aE,.sl 3,aE,.sl 3,aE,aE,.sl 3,aE,.bool]
abbrev f50:List Lf:=[fI,fI,fI,fI,fI,fI,fI,fI,.fr 3,fI,.fr 3,fI,fI,.fr 3,fI,fB]
abbrev Fm:List K:=[aE,aE,aE,aE,aE,aE,aE,aE,.sl 3,aE,.sl 3,aE,aE,.sl 3,aE,.bool,.sl 315]
abbrev f52:List Lf:=[fI,fI,fI,fI,fI,fI,fI,fI,.fr 3,fI,.fr 3,fI,fI,.fr 3,fI,fB,.fr 315]
abbrev wh:List K:=[aE,aE,aE,aE,aE,aE,aE,aE,.sl 3,aE,.sl 3,aE,aE,.sl 3,aE,.bool,.sl 315]
abbrev f53:List Lf:=[fI,fI,fI,fI,fI,fI,fI,fI,.fr 3,fI,.fr 3,fI,fI,.fr 3,fI,fB,.fr 315]
abbrev Fv:List K:=[.sl 84]
abbrev f58:List Lf:=[.fr 84]
abbrev Fz:List K:=[.sl 84]
abbrev f59:List Lf:=[.fr 84]
abbrev Fu:List K:=[.str,aE,aE,.sl 9]
abbrev f61:List Lf:=[fS,fI,fI,.fr 9]
abbrev vZ:List K:=[.str,aE,aE,.sl 9]
abbrev f62:List Lf:=[fS,fI,fI,.fr 9]
abbrev FA:List K:=[aE,.sl 3]
abbrev f63:List Lf:=[fI,.fr 3]
abbrev BS:List K:=[aE,.sl 3]
abbrev f64:List Lf:=[fI,.fr 3]
abbrev Fl:List K:=[aE,.str,aE,aE,.sl 9,.str,aE,aE,.sl 9,aE,.sl 3,aE,.sl 3]
abbrev f65:List Lf:=[fI,fS,fI,fI,.fr 9,fS,fI,fI,.fr 9,fI,.fr 3,fI,.fr 3]
abbrev Dw:List K:=[aE,.str,aE,aE,.sl 9,.str,aE,aE,.sl 9,aE,.sl 3,aE,.sl 3]
abbrev f66:List Lf:=[fI,fS,fI,fI,.fr 9,fS,fI,fI,.fr 9,fI,.fr 3,fI,.fr 3]
abbrev Fy:List K:=[.sl 53,.bool,.str,aE,aE,.sl 9,aE,.sl 3,aE,.str,aE,aE,.sl 9,.str,aE,aE,.sl 9,aE,.sl 3,aE,.sl 3]
abbrev f67:List Lf:=[.fr 53,fB,fS,fI,fI,.fr 9,fI,.fr 3,fI,fS,fI,fI,.fr 9,fS,fI,fI,.fr 9,fI,.fr 3,fI,.fr 3]
abbrev D3:List K:=[.sl 53,.bool,.str,aE,aE,.sl 9,aE,.sl 3,aE,.str,aE,aE,.sl 9,.str,aE,aE,.sl 9,aE,.sl 3,aE,.sl 3]
abbrev f68:List Lf:=[.fr 53,fB,fS,fI,fI,.fr 9,fI,.fr 3,fI,fS,fI,fI,.fr 9,fS,fI,fI,.fr 9,fI,.fr 3,fI,.fr 3]
abbrev Fw:List K:=[aE,.str,.sl 53,.bool,.str,aE,aE,.sl 9,aE,.sl 3,aE,.str,aE,aE,.sl 9,.str,aE,aE,.sl 9,aE,.sl 3,aE,.sl 3]
abbrev f83:List Lf:=[fI,fS,.fr 53,fB,fS,fI,fI,.fr 9,fI,.fr 3,fI,fS,fI,fI,.fr 9,fS,fI,fI,.fr 9,fI,.fr 3,fI,.fr 3]
abbrev Fx:List K:=[aE,.str,.sl 53,.bool,.str,aE,aE,.sl 9,aE,.sl 3,aE,.str,aE,aE,.sl 9,.str,aE,aE,.sl 9,aE,.sl 3,aE,.sl 3]
abbrev f84:List Lf:=[fI,fS,.fr 53,fB,fS,fI,fI,.fr 9,fI,.fr 3,fI,fS,fI,fI,.fr 9,fS,fI,fI,.fr 9,fI,.fr 3,fI,.fr 3]
abbrev Fo:List K:=[.sl 37,.sl 170,.bool,.str,aE,aE,.sl 9,.bool,.sl 3]
abbrev f88:List Lf:=[.fr 37,.fr 170,fB,fS,fI,fI,.fr 9,fB,.fr 3]
abbrev EN:List K:=[.sl 37,.sl 170,.bool,.str,aE,aE,.sl 9,.bool,.sl 3]
abbrev f89:List Lf:=[.fr 37,.fr 170,fB,fS,fI,fI,.fr 9,fB,.fr 3]
abbrev Ft:List K:=[.sl 295]
abbrev f98:List Lf:=[.fr 295]
abbrev Fp:List K:=[.sl 295]
abbrev f99:List Lf:=[.fr 295]
abbrev E3:List K:=[.sl 37,.sl 170,aE,.str,aE,aE,.sl 9,.sl 3,aE]
abbrev f107:List Lf:=[.fr 37,.fr 170,fI,fS,fI,fI,.fr 9,.fr 3,fI]
abbrev Ar:List K:=[.sl 37,.sl 170,aE,.str,aE,aE,.sl 9,.sl 3,aE]
abbrev f108:List Lf:=[.fr 37,.fr 170,fI,fS,fI,fI,.fr 9,.fr 3,fI]
abbrev Fa:List K:=[.sl 37,.sl 170,aE,.str,aE,aE,.sl 9,.sl 3,aE,.sl 84]
abbrev f132:List Lf:=[.fr 37,.fr 170,fI,fS,fI,fI,.fr 9,.fr 3,fI,.fr 84]
abbrev EP:List K:=[.sl 37,.sl 170,aE,.str,aE,aE,.sl 9,.sl 3,aE,.sl 84]
abbrev f133:List Lf:=[.fr 37,.fr 170,fI,fS,fI,fI,.fr 9,.fr 3,fI,.fr 84]
abbrev Et:List K:=[.str,aE]
abbrev f150:List Lf:=[fS,fI]
abbrev EY:List K:=[.str,aE]
abbrev f151:List Lf:=[fS,fI]
abbrev Ew:List K:=[.str,aE]
abbrev f156:List Lf:=[fS,fI]
abbrev ED:List K:=[aE,aE,aE,aE,aE,aE,aE,aE,.sl 3,aE,.sl 3,aE,aE,.sl 3,aE,.bool,.sl 315,aE,aE,aE,aE,aE,aE,aE,aE,.sl 3,aE,.sl 3,aE,aE,.sl 3,aE,.bool,.sl 315,aE,aE,aE,aE,aE,aE,aE,aE,.sl 3,aE,.sl 3,aE,aE,.sl 3,aE,.bool,.sl 315]
abbrev f169:List Lf:=[fI,fI,fI,fI,fI,fI,fI,fI,.fr 3,fI,.fr 3,fI,fI,.fr 3,fI,fB,.fr 315,fI,fI,fI,fI,fI,fI,fI,fI,.fr 3,fI,.fr 3,fI,fI,.fr 3,fI,fB,.fr 315,fI,fI,fI,fI,fI,fI,fI,fI,.fr 3,fI,.fr 3,fI,fI,.fr 3,fI,fB,.fr 315]
abbrev vK:List K:=[aE,aE,aE,aE,aE,aE,aE,aE,.sl 3,aE,.sl 3,aE,aE,.sl 3,aE,.bool,.sl 315,aE,aE,aE,aE,aE,aE,aE,aE,.sl 3,aE,.sl 3,aE,aE,.sl 3,aE,.bool,.sl 315,aE,aE,aE,aE,aE,aE,aE,aE,.sl 3,aE,.sl 3,aE,aE,.sl 3,aE,.bool,.sl 315]
abbrev f170:List Lf:=[fI,fI,fI,fI,fI,fI,fI,fI,.fr 3,fI,.fr 3,fI,fI,.fr 3,fI,fB,.fr 315,fI,fI,fI,fI,fI,fI,fI,fI,.fr 3,fI,.fr 3,fI,fI,.fr 3,fI,fB,.fr 315,fI,fI,fI,fI,fI,fI,fI,fI,.fr 3,fI,.fr 3,fI,fI,.fr 3,fI,fB,.fr 315]
abbrev EG:List K:=[.sl 53,.sl 62]
abbrev f187:List Lf:=[.fr 53,.fr 62]
abbrev tc:List K:=[.sl 53,.sl 62]
abbrev f188:List Lf:=[.fr 53,.fr 62]
abbrev ER:List K:=[.str,aE]
abbrev f232:List Lf:=[fS,fI]
abbrev Eu:List K:=[.sl 5,aE,aE]
abbrev f255:List Lf:=[.fr 5,fI,fI]
abbrev Ep:List K:=[.sl 5,aE,aE]
abbrev f256:List Lf:=[.fr 5,fI,fI]
abbrev EW:List K:=[.sl 188,aE]
abbrev f279:List Lf:=[.fr 188,fI]
abbrev Ac:List K:=[.sl 188,aE]
abbrev f280:List Lf:=[.fr 188,fI]
abbrev EF:List K:=[.str,aE,aE,.sl 9]
abbrev f288:List Lf:=[fS,fI,fI,.fr 9]
abbrev E9:List K:=[aE,.sl 3]
abbrev f289:List Lf:=[fI,.fr 3]
abbrev Ez:List K:=[aE,.str,aE,aE,.sl 9,.str,aE,aE,.sl 9,aE,.sl 3,aE,.sl 3]
abbrev f290:List Lf:=[fI,fS,fI,fI,.fr 9,fS,fI,fI,.fr 9,fI,.fr 3,fI,.fr 3]
abbrev Fe:List K:=[aE,.str,aE,aE,.sl 9,.str,aE,aE,.sl 9,aE,.sl 3,aE,.sl 3]
abbrev f291:List Lf:=[fI,fS,fI,fI,.fr 9,fS,fI,fI,.fr 9,fI,.fr 3,fI,.fr 3]
abbrev E2:List K:=[.sl 413,.bool,.str,aE,aE,.sl 9,aE,.sl 3,aE,.str,aE,aE,.sl 9,.str,aE,aE,.sl 9,aE,.sl 3,aE,.sl 3]
abbrev f292:List Lf:=[.fr 413,fB,fS,fI,fI,.fr 9,fI,.fr 3,fI,fS,fI,fI,.fr 9,fS,fI,fI,.fr 9,fI,.fr 3,fI,.fr 3]
abbrev EC:List K:=[.sl 413,.bool,.str,aE,aE,.sl 9,aE,.sl 3,aE,.str,aE,aE,.sl 9,.str,aE,aE,.sl 9,aE,.sl 3,aE,.sl 3]
abbrev f293:List Lf:=[.fr 413,fB,fS,fI,fI,.fr 9,fI,.fr 3,fI,fS,fI,fI,.fr 9,fS,fI,fI,.fr 9,fI,.fr 3,fI,.fr 3]
abbrev EE:List K:=[aE,.str,.sl 413,.bool,.str,aE,aE,.sl 9,aE,.sl 3,aE,.str,aE,aE,.sl 9,.str,aE,aE,.sl 9,aE,.sl 3,aE,.sl 3]
abbrev f294:List Lf:=[fI,fS,.fr 413,fB,fS,fI,fI,.fr 9,fI,.fr 3,fI,fS,fI,fI,.fr 9,fS,fI,fI,.fr 9,fI,.fr 3,fI,.fr 3]
abbrev Em:List K:=[aE,.str,.sl 413,.bool,.str,aE,aE,.sl 9,aE,.sl 3,aE,.str,aE,aE,.sl 9,.str,aE,aE,.sl 9,aE,.sl 3,aE,.sl 3]
abbrev f295:List Lf:=[fI,fS,.fr 413,fB,fS,fI,fI,.fr 9,fI,.fr 3,fI,fS,fI,fI,.fr 9,fS,fI,fI,.fr 9,fI,.fr 3,fI,.fr 3]
abbrev EB:List K:=[aE,aE]
abbrev f314:List Lf:=[fI,fI]
abbrev C9:List K:=[aE,aE]
abbrev f315:List Lf:=[fI,fI]
abbrev E5:List K:=[.int .i32,.int .u32]
abbrev f360:List Lf:=[.rd (.int .i32),.rd (.int .u32)]
abbrev EV:List K:=[.int .i32,.int .u32]
abbrev f361:List Lf:=[.rd (.int .i32),.rd (.int .u32)]
abbrev EM:List K:=[.sl 3,aE]
abbrev f408:List Lf:=[.fr 3,fI]
abbrev Fc:List K:=[aE,aE,aE,aE,aE,aE,aE,aE,.sl 3,aE,.sl 3,aE,aE,.sl 3,aE,.bool]
abbrev f409:List Lf:=[fI,fI,fI,fI,fI,fI,fI,fI,.fr 3,fI,.fr 3,fI,fI,.fr 3,fI,fB]
abbrev ET:List K:=[aE,aE,aE,aE,aE,aE,aE,aE,.sl 3,aE,.sl 3,aE,aE,.sl 3,aE,.bool]
abbrev f410:List Lf:=[fI,fI,fI,fI,fI,fI,fI,fI,.fr 3,fI,.fr 3,fI,fI,.fr 3,fI,fB]
abbrev En:List K:=[aE,aE,aE,aE,aE,aE,aE,aE,.sl 3,aE,.sl 3,aE,aE,.sl 3,aE,.bool,.sl 457]
abbrev f412:List Lf:=[fI,fI,fI,fI,fI,fI,fI,fI,.fr 3,fI,.fr 3,fI,fI,.fr 3,fI,fB,.fr 457]
abbrev EL:List K:=[aE,aE,aE,aE,aE,aE,aE,aE,.sl 3,aE,.sl 3,aE,aE,.sl 3,aE,.bool,.sl 457]
abbrev f413:List Lf:=[fI,fI,fI,fI,fI,fI,fI,fI,.fr 3,fI,.fr 3,fI,fI,.fr 3,fI,fB,.fr 457]
abbrev E7:List K:=[aE,aE]
abbrev f457:List Lf:=[fI,fI]
def mC:List (Nat×TI):=[
 (2,⟨[aE],false,[],8,false⟩),
 (3,⟨[aE],false,[],8,false⟩),
 (4,⟨[.bool],false,[],1,false⟩),
 (5,⟨[.int .u8],false,[],1,false⟩),
 (6,⟨[.int .u8],false,[],1,false⟩),
 (7,⟨k7,true,[(0,2),(1,3),(2,4),(3,6)],24,false⟩),
 (8,⟨k8,true,[(0,2),(1,3),(2,4),(3,6)],24,false⟩),
 (9,⟨[.str],false,[],16,false⟩),
 (10,⟨[.str],false,[],16,false⟩),
 (11,⟨[.str],false,[],16,false⟩),
 (12,⟨[.int .u64],false,[],8,false⟩),
 (13,⟨tX,true,[(0,9),(1,12)],24,false⟩),
 (14,⟨tU,true,[(0,9),(1,12)],24,false⟩),
 (21,⟨[.int .i32],false,[],4,false⟩),
 (22,⟨[.sl 156],false,[],24,false⟩),
 (24,⟨[.sl 151],false,[],24,false⟩),
 (31,⟨[.sl 5],false,[],24,false⟩),
 (33,⟨[.sl 37],false,[],24,false⟩),
 (34,⟨[.sl 170],false,[],24,false⟩),
 (35,⟨FC,true,[(0,33),(1,34)],48,false⟩),
 (36,⟨wg,true,[(0,33),(1,34)],48,false⟩),
 (37,⟨[.sl 53],false,[],24,false⟩),
 (46,⟨[.sl 3],false,[],24,false⟩),
 (47,⟨Fk,true,[(0,46),(1,3)],32,false⟩),
 (48,⟨qW,true,[(0,46),(1,3)],32,false⟩),
 (49,⟨FD,true,[(0,3),(1,3),(2,3),(3,3),(4,3),(5,3),(6,3),(7,3),(8,48),(10,48),(12,3),(13,48),(15,4)],176,false⟩),
 (50,⟨lu,true,[(0,3),(1,3),(2,3),(3,3),(4,3),(5,3),(6,3),(7,3),(8,48),(10,48),(12,3),(13,48),(15,4)],176,false⟩),
 (51,⟨[.sl 315],false,[],24,false⟩),
 (52,⟨Fm,true,[(0,50),(16,51)],200,false⟩),
 (53,⟨wh,true,[(0,50),(16,51)],200,false⟩),
 (57,⟨[.sl 84],false,[],24,false⟩),
 (58,⟨Fv,true,[(0,57)],24,false⟩),
 (59,⟨Fz,true,[(0,57)],24,false⟩),
 (60,⟨[.sl 9],false,[],24,false⟩),
 (61,⟨Fu,true,[(0,9),(1,3),(2,3),(3,60)],56,false⟩),
 (62,⟨vZ,true,[(0,9),(1,3),(2,3),(3,60)],56,false⟩),
 (63,⟨FA,true,[(0,3),(1,46)],32,false⟩),
 (64,⟨BS,true,[(0,3),(1,46)],32,false⟩),
 (65,⟨Fl,true,[(0,3),(1,62),(5,62),(9,64),(11,64)],184,false⟩),
 (66,⟨Dw,true,[(0,3),(1,62),(5,62),(9,64),(11,64)],184,false⟩),
 (67,⟨Fy,true,[(0,37),(1,4),(2,62),(6,64),(8,66)],304,false⟩),
 (68,⟨D3,true,[(0,37),(1,4),(2,62),(6,64),(8,66)],304,false⟩),
 (83,⟨Fw,true,[(0,3),(1,9),(2,68)],328,false⟩),
 (84,⟨Fx,true,[(0,3),(1,9),(2,68)],328,false⟩),
 (85,⟨[.sl 68],false,[],24,false⟩),
 (88,⟨Fo,true,[(0,36),(2,4),(3,62),(7,4),(8,46)],144,false⟩),
 (89,⟨EN,true,[(0,36),(2,4),(3,62),(7,4),(8,46)],144,false⟩),
 (97,⟨[.sl 295],false,[],24,false⟩),
 (98,⟨Ft,true,[(0,97)],24,false⟩),
 (99,⟨Fp,true,[(0,97)],24,false⟩),
 (104,⟨[.sl 280],false,[],24,false⟩),
 (107,⟨E3,true,[(0,36),(2,3),(3,62),(7,46),(8,3)],144,false⟩),
 (108,⟨Ar,true,[(0,36),(2,3),(3,62),(7,46),(8,3)],144,false⟩),
 (117,⟨[.sl 232],false,[],24,false⟩),
 (120,⟨[.sl 108],false,[],24,false⟩),
 (123,⟨[.sl 46],false,[],24,false⟩),
 (126,⟨[.sl 62],false,[],24,false⟩),
 (132,⟨Fa,true,[(0,108),(9,59)],168,false⟩),
 (133,⟨EP,true,[(0,108),(9,59)],168,false⟩),
 (150,⟨Et,true,[(0,9),(1,3)],24,false⟩),
 (151,⟨EY,true,[(0,9),(1,3)],24,true⟩),
 (156,⟨Ew,true,[(0,9),(1,3)],24,true⟩),
 (169,⟨ED,true,[(0,53),(17,53),(34,53)],600,false⟩),
 (170,⟨vK,true,[(0,53),(17,53),(34,53)],600,false⟩),
 (184,⟨[.sl 188],false,[],24,false⟩),
 (187,⟨EG,true,[(0,37),(1,126)],48,false⟩),
 (188,⟨tc,true,[(0,37),(1,126)],48,false⟩),
 (232,⟨ER,true,[(0,9),(1,3)],24,true⟩),
 (255,⟨Eu,true,[(0,31),(1,3),(2,3)],40,false⟩),
 (256,⟨Ep,true,[(0,31),(1,3),(2,3)],40,false⟩),
 (279,⟨EW,true,[(0,184),(1,3)],32,false⟩),
 (280,⟨Ac,true,[(0,184),(1,3)],32,false⟩),
 (287,⟨[.sl 413],false,[],24,false⟩),
 (288,⟨EF,true,[(0,9),(1,3),(2,3),(3,60)],56,false⟩),
 (289,⟨E9,true,[(0,3),(1,46)],32,false⟩),
 (290,⟨Ez,true,[(0,3),(1,288),(5,288),(9,289),(11,289)],184,false⟩),
 (291,⟨Fe,true,[(0,3),(1,288),(5,288),(9,289),(11,289)],184,false⟩),
 (292,⟨E2,true,[(0,287),(1,4),(2,288),(6,289),(8,291)],304,false⟩),
 (293,⟨EC,true,[(0,287),(1,4),(2,288),(6,289),(8,291)],304,false⟩),
 (294,⟨EE,true,[(0,3),(1,9),(2,293)],328,false⟩),
 (295,⟨Em,true,[(0,3),(1,9),(2,293)],328,false⟩),
 (314,⟨EB,true,[(0,3),(1,3)],16,false⟩),
 (315,⟨C9,true,[(0,3),(1,3)],16,true⟩),
 (324,⟨[.int .u64],false,[],8,false⟩),
 (357,⟨[.int .u32],false,[],4,false⟩),
 (360,⟨E5,true,[(0,21),(1,357)],8,false⟩),
 (361,⟨EV,true,[(0,21),(1,357)],8,false⟩),
 (408,⟨EM,true,[(0,46),(1,3)],32,false⟩),
 (409,⟨Fc,true,[(0,3),(1,3),(2,3),(3,3),(4,3),(5,3),(6,3),(7,3),(8,408),(10,408),(12,3),(13,408),(15,4)],176,false⟩),
 (410,⟨ET,true,[(0,3),(1,3),(2,3),(3,3),(4,3),(5,3),(6,3),(7,3),(8,408),(10,408),(12,3),(13,408),(15,4)],176,false⟩),
 (411,⟨[.sl 457],false,[],24,false⟩),
 (412,⟨En,true,[(0,410),(16,411)],200,false⟩),
 (413,⟨EL,true,[(0,410),(16,411)],200,false⟩),
 (457,⟨E7,true,[(0,3),(1,3)],16,true⟩),
 (479,⟨[.int .u8],false,[],1,false⟩),
 (480,⟨[.int .u8],false,[],1,false⟩),
 (483,⟨[.int .i32],false,[],4,false⟩),
 (484,⟨[.int .i32],false,[],4,false⟩),
 (500,⟨[.sl 5],false,[],24,false⟩)]
abbrev Ev:Env:=cR mC
def az:eO Tryz.prog mC=true:=by kernel_rfl
def mix:Tryz.prog.follows .mixedOrders=true:=by kernel_rfl
abbrev cj:=Valid Tryz.prog Ev
namespace Z0
def F (x0:aq):aD:=ret ((decide ((x0.length:Int)>1048576)):Bool)
def md (a0:List Int):Bool:=(decide ((a0.length:Int)>1048576))
def gd (a0:List Int):Prop:=True
def R:=RR gd md
def aj {a0}(h:gd a0):R (a0.map aV)=some (md a0):=cQ h
def aM:=CN [pL 5] oB RT.dec R
def bn (a0)(hg:gd a0):F (a0.map aV)=ret (md a0):=by
 unfold F md
 rw [List.length_map]
def af:cj 20 aM:=W1 6 F mix az bn .nil Tryz.func20
end Z0
namespace Z1
inductive Pt where
 | p0 (a:aq) (b c:Int)
def pid:Pt->Nat
 | .p0 ..=>3
def cM:Pt->List V
 | .p0 a b c=>[.sl none 5 a,.int .i64 b,.int .i64 c]
def dQ:Pt->List aK
 | .p0 a b c=>[]
def step (J:Pt->aD):Pt->aD
 | .p0 a b c=>(cond (c<(a.length:Int)) (cond (c<4000) (m2 c (a.length:Int) (J (.p0 a (vQ .i64 (i64.wrap ((i64.wrap ((i64.wrap (b*137))+(i64.wrap (jz a (toNat c)))))+11)) 1073741823) (i64.wrap (c+1))))) (ret ((a,0,b):aq×Int×Int))) (ret ((a,0,b):aq×Int×Int)))
def start (J:Pt->aD)(x0:aq):aD:=J (.p0 x0 (i64.wrap (193017+(x0.length:Int))) 0)
def live:Nat->Live:=gL [(3,jC [0,3,4])]
abbrev eg:List K:=[.sl 5,aE,aE]
def pats:List fF:=[.rd (.sl 5)]
abbrev E:Env:={ T:=assoc mC,G:=cZ [],nt:=32,M:=ff [],np:=0,mt:=false,I:=gy [] }
def step_eq (I:dD)(p:Pt):dU E live I (pid p) (bL Tryz.f137) (iT (live (pid p)) (cM p) (dQ p)) (dA E Tryz.f137 (.uq eg))=step (fun q=>I (pid q) (cM q) (dQ q)) p:=by
 cases p<;>kernel_rfl
def start_eq (I:dD)(ls:List L):gO E live I (bL Tryz.f137) (dJ pats ls) (dA E Tryz.f137 (.uq eg))=start (fun q=>I (pid q) (cM q) (dQ q)) (eU ls):=by kernel_rfl
def run_eq (n:Nat)(ls:List L):eY E live Tryz.f137 (.uq eg) n (dJ pats ls)=start (iter step n) (eU ls):=dI (id:=pid) (vs:=cM) (hs:=dQ) (step:=step) (start:=fun J=>start J (eU ls)) step_eq (fun I=>start_eq I ls) n
def gd (x0:aq):Prop:=x0.length<=1048576
def post (x0:aq)(y:aq×Int×Int):Prop:=y.1=x0/\CI x0 y.2.1
def wp (x0:aq)(hg:gd x0):∃n,Wp (start (iter step n) x0) (post x0):=by
 unfold gd at hg
 refine ⟨x0.length+2,kH (fun p=>match p with | .p0 a b c=>a=x0/\0<=c/\c<=x0.length) (fun p=>match p with | .p0 a b c=>(x0.length - c).toNat) (fun J p hI hJ=>?_) _ _ ⟨rfl,by omega,by omega⟩ (by show ((x0.length:Int) - 0).toNat<_;omega)⟩
 obtain ⟨a,b,c⟩:=p
 obtain ⟨rfl,h1,h2⟩:=hI
 have hf:∀b:Int,post a (a,0,b):=fun b=>⟨rfl,hg,Int.le_refl _,by show (0:Int)<=a.length;omega⟩
 refine wp_cond (fun c1=>wp_cond (fun c2=>?_) (fun c2=>wp_ret (hf b))) (fun c1=>wp_ret (hf b))
 have c1:=of_decide_eq_true c1
 have e:i64.wrap (c+1)=c+1:=wi _ (by omega)
 refine tN h1 c1 (hJ _ ⟨rfl,?_,?_⟩ ?_)
 ·show 0<=i64.wrap (c+1);omega
 ·show i64.wrap (c+1)<=_;omega
 ·show ((a.length:Int) - i64.wrap (c+1)).toNat<((a.length:Int) - c).toNat;omega
def R:(aq)->Option (aq×Int×Int):=RQ (fun n x=>start (iter step n) x) (fun x=>post x)
def iN {x0:aq}(hg:gd x0):∃y,R x0=some y/\post x0 y:=mh (wp x0 hg)
def acc (ls:List L):aq:=(eU ls)
def aM:yI:=NC eg pats acc R
def af:sV Tryz.prog Ev 137 aM:=VN (live:=live) (mt:=false) mix az .nil .nil .nil Tryz.func137 (by kernel_rfl) run_eq
def ic (_:Nat):gA:=BZ Ev aM
def bR (n:Nat):dX Tryz.prog Ev n 137 (ic n):=yE af
end Z1
namespace Z2
def F (x0:Int):aD:=ret ((⟨[[L.int x0]],1⟩):cX)
def md (a0:Int):aL:=(⟨[a0],1⟩)
def gd (a0:Int):Prop:=True
def R:=RR gd md
def aj {a0}(h:gd a0):R a0=some (aL.r (md a0)):=cQ h
def aM:=CN [pI] (.agg f48) RT.dec R
def bn (a0)(hg:gd a0):F a0=ret (aL.r (md a0)):=fz
def af:cj 256 aM:=W1 6 F mix az bn .nil Tryz.func256
end Z2
namespace Z3
def F (x0:aq)(x1 x2:Int):aD:=(cond (x1<(x0.length:Int)) (m2 x1 (x0.length:Int) (ret ((Hl.mk,(i64.wrap (x1+1)),(i64.wrap ((i64.wrap (x2*6364136223846793005))+1442695040888963407)),(vQ .i64 (i64.wrap ((vQ .i64 (nA .i64 (Int.fdiv (i64.wrap ((i64.wrap (x2*6364136223846793005))+1442695040888963407)) (2^33)) (Int.fdiv (i64.wrap ((i64.wrap (x2*6364136223846793005))+1442695040888963407)) (2^47))) 255)+(i64.wrap (jz x0 (toNat x1))))) 255)):Hl×Int×Int×Int))) (ret ((Hl.mk,x1,(i64.wrap ((i64.wrap (x2*6364136223846793005))+1442695040888963407)),(vQ .i64 (nA .i64 (Int.fdiv (i64.wrap ((i64.wrap (x2*6364136223846793005))+1442695040888963407)) (2^33)) (Int.fdiv (i64.wrap ((i64.wrap (x2*6364136223846793005))+1442695040888963407)) (2^47))) 255)):Hl×Int×Int×Int)))
abbrev eg:List K:=[.sl 5,aE,aE]
def pats:List (Option fF):=[none]
def res:RP:=.one (.rd (.int .i64))
abbrev E:Env:={ T:=assoc mC,G:=cZ [],nt:=58,M:=ff [],np:=(nC eg),mt:=false,I:=gy [] }
def run_eq (n:Nat)(ls:List L):eY E (fun _=>[]) Tryz.f230 (.cur eg res.parts) n (iG eg pats ls)=F (eU ls) (cF 1 ls) (cF 2 ls):=by kernel_rfl
def gd (x0:aq)(x1 x2:Int):Prop:=CI x0 x1
def post (x0:aq)(x1 x2:Int)(y:Hl×Int×Int×Int):Prop:=CI x0 y.2.1/\0<=y.2.2.2/\y.2.2.2<=255
def wp (x0:aq)(x1 x2:Int)(hg:gd x0 x1 x2):Wp (F x0 x1 x2) (post x0 x1 x2):=by
 obtain ⟨h1,h2,h3⟩:=hg
 unfold F
 refine wp_cond (fun c=>?_) (fun c=>?_)
 ·refine tN h2 (of_decide_eq_true c) (wp_ret ⟨⟨h1,?_,?_⟩,uv _⟩)
  ·have:=of_decide_eq_true c;show 0<=i64.wrap (x1+1);rw [wi _ (by omega)];omega
  ·have:=of_decide_eq_true c;show i64.wrap (x1+1)<=_;rw [wi _ (by omega)];omega
 ·exact wp_ret ⟨⟨h1,h2,h3⟩,uv _⟩
def R:(aq×Int×Int)->Option (Hl×Int×Int×Int):=RQ (fun _ x=>F x.1 x.2.1 x.2.2) (fun x=>post x.1 x.2.1 x.2.2)
def eJ {x0:aq}{x1 x2:Int}{γ:Type}[RT γ]{k:(Hl×Int×Int×Int)->aD}{Q:γ->Prop}(hg:gd x0 x1 x2)(hk:∀y,post x0 x1 x2 y->Wp (k y) Q):Wp (call (R (x0,x1,x2)) k) Q:=gq ⟨0,wp x0 x1 x2 hg⟩ hk
def acc (ls:List L):aq×Int×Int:=((eU ls),(cF 1 ls),(cF 2 ls))
def aM:jO:=CC eg pats res acc R
def af:gD Tryz.prog Ev 230 aM:=VC (live:=(fun _=>[])) (mt:=false) mix az .nil .nil .nil Tryz.func230 (by kernel_rfl) run_eq
def ic (_:Nat):gA:=kg Ev aM
def bR (n:Nat):dX Tryz.prog Ev n 230 (ic n):=eR af
end Z3
namespace Z4
def F (x0:aq)(x1 x2 x3:Int):aD:=(cond (x3<=0) (ret ((Hl.mk,x1,x2,0):Hl×Int×Int×Int)) (cond (x3<=256) (call (Z3.R (x0,x1,x2)) fun v1=>(cond (x3=0) none (ret ((Hl.mk,v1.2.1,v1.2.2.1,(Int.tmod v1.2.2.2 x3)):Hl×Int×Int×Int)))) (call (Z3.R (x0,x1,x2)) fun v2=>(call (Z3.R (x0,v2.2.1,v2.2.2.1)) fun v3=>(call (Z3.R (x0,v3.2.1,v3.2.2.1)) fun v4=>(cond (x3=0) none (ret ((Hl.mk,v4.2.1,v4.2.2.1,(Int.tmod (i64.wrap ((i64.wrap ((i64.wrap (v2.2.2.2*65536))+(i64.wrap (v3.2.2.2*256))))+v4.2.2.2)) x3)):Hl×Int×Int×Int))))))))
abbrev eg:List K:=[.sl 5,aE,aE]
def pats:List (Option fF):=[none,some (.rd (.int .i64))]
def res:RP:=.one (.rd (.int .i64))
abbrev E:Env:={ T:=assoc mC,G:=cZ [],nt:=31,M:=ff [],np:=(nC eg),mt:=false,I:=gy [(230,Z3.ic (nC eg))] }
def run_eq (n:Nat)(ls:List L):eY E (fun _=>[]) Tryz.f139 (.cur eg res.parts) n (iG eg pats ls)=F (eU ls) (cF 1 ls) (cF 2 ls) (cF 3 ls):=by kernel_rfl
def gd (x0:aq)(x1 x2 x3:Int):Prop:=CI x0 x1
def post (x0:aq)(x1 x2 x3:Int)(y:Hl×Int×Int×Int):Prop:=CI x0 y.2.1/\(x3<=0->y.2.2.2=0)/\(0<x3->0<=y.2.2.2/\y.2.2.2<x3)
def wp (x0:aq)(x1 x2 x3:Int)(hg:gd x0 x1 x2 x3):Wp (F x0 x1 x2 x3) (post x0 x1 x2 x3):=by
 unfold F
 refine wp_cond (fun c=>wp_ret ⟨hg,fun _=>rfl,fun h=>?_⟩) (fun c=>?_)
 ·have:=of_decide_eq_true c;omega
 have c:=of_decide_eq_false c
 refine wp_cond (fun c2=>?_) (fun c2=>?_)
 ·refine Z3.eJ hg (fun v ⟨hv,h1,h2⟩=>wp_cond (fun c3=>absurd (of_decide_eq_true c3) (by omega)) (fun c3=>wp_ret ⟨hv,fun h=>absurd h c,fun h=>rU h1 h⟩))
 ·refine Z3.eJ hg (fun v ⟨hv,h1,h2⟩=>Z3.eJ hv (fun v' ⟨hv',h1',h2'⟩=>Z3.eJ hv' (fun w ⟨hw,h1'',h2''⟩=>wp_cond (fun c3=>absurd (of_decide_eq_true c3) (by omega)) (fun c3=>wp_ret ⟨hw,fun h=>absurd h c,fun h=>rU ?_ h⟩))))
  rw [wi (v.2.2.2*65536) (by omega),wi (v'.2.2.2*256) (by omega),wi (v.2.2.2*65536+v'.2.2.2*256) (by omega),wi _ (by omega)]
  omega
def R:(aq×Int×Int×Int)->Option (Hl×Int×Int×Int):=RQ (fun _ x=>F x.1 x.2.1 x.2.2.1 x.2.2.2) (fun x=>post x.1 x.2.1 x.2.2.1 x.2.2.2)
def iN {x0:aq}{x1 x2 x3:Int}(hg:gd x0 x1 x2 x3):∃y,R (x0,x1,x2,x3)=some y/\post x0 x1 x2 x3 y:=mh ⟨0,wp x0 x1 x2 x3 hg⟩
def eJ {x0:aq}{x1 x2 x3:Int}{γ:Type}[RT γ]{k:(Hl×Int×Int×Int)->aD}{Q:γ->Prop}(hg:gd x0 x1 x2 x3)(hk:∀y,post x0 x1 x2 x3 y->Wp (k y) Q):Wp (call (R (x0,x1,x2,x3)) k) Q:=gq ⟨0,wp x0 x1 x2 x3 hg⟩ hk
def acc (ls:List L):aq×Int×Int×Int:=((eU ls),(cF 1 ls),(cF 2 ls),(cF 3 ls))
def aM:jO:=CC eg pats res acc R
def af:gD Tryz.prog Ev 139 aM:=VC (live:=(fun _=>[])) (mt:=false) mix az .nil .nil (.cons (Z3.bR (nC eg)) .nil) Tryz.func139 (by kernel_rfl) run_eq
def ic (_:Nat):gA:=kg Ev aM
def bR (n:Nat):dX Tryz.prog Ev n 139 (ic n):=eR af
end Z4
namespace Z5
def F (x0:aq)(x1 x2:Int)(x3:aq):aD:=(call (Z4.R (x0,x1,x2,(x3.length:Int))) fun v1=>(cA ((0:Int)<=v1.2.2.2) (cA (v1.2.2.2<(x3.length:Int)) (ret ((Hl.mk,v1.2.1,v1.2.2.1,(tS x3 (toNat v1.2.2.2))):Hl×Int×Int×av)))))
abbrev eg:List K:=[.sl 5,aE,aE]
def pats:List (Option fF):=[none,some (.rd (.sl 9))]
def res:RP:=.one (.rd (.str))
abbrev E:Env:={ T:=assoc mC,G:=cZ [],nt:=12,M:=ff [],np:=(nC eg),mt:=false,I:=gy [(139,Z4.ic (nC eg))] }
def run_eq (n:Nat)(ls:List L):eY E (fun _=>[]) Tryz.f192 (.cur eg res.parts) n (iG eg pats ls)=F (eU ls) (cF 1 ls) (cF 2 ls) (fP 3 ls):=by kernel_rfl
def gd (x0:aq)(x1 x2:Int)(x3:aq):Prop:=CI x0 x1/\0<x3.length
def post (x0:aq)(x1 x2:Int)(x3:aq)(y:Hl×Int×Int×av):Prop:=CI x0 y.2.1/\∃i,i<x3.length/\y.2.2.2=tS x3 i
def wp (x0:aq)(x1 x2:Int)(x3:aq)(hg:gd x0 x1 x2 x3):Wp (F x0 x1 x2 x3) (post x0 x1 x2 x3):=by
 unfold F
 refine Z4.eJ hg.1 (fun v ⟨hv,_,h⟩=>?_)
 obtain ⟨h1,h2⟩:=h (by have:=hg.2;omega)
 exact fE (decide_eq_true h1) (fE (decide_eq_true h2) (wp_ret ⟨hv,_,by omega,rfl⟩))
def R:(aq×Int×Int×aq)->Option (Hl×Int×Int×av):=RQ (fun _ x=>F x.1 x.2.1 x.2.2.1 x.2.2.2) (fun x=>post x.1 x.2.1 x.2.2.1 x.2.2.2)
def eJ {x0:aq}{x1 x2:Int}{x3:aq}{γ:Type}[RT γ]{k:(Hl×Int×Int×av)->aD}{Q:γ->Prop}(hg:gd x0 x1 x2 x3)(hk:∀y,post x0 x1 x2 x3 y->Wp (k y) Q):Wp (call (R (x0,x1,x2,x3)) k) Q:=gq ⟨0,wp x0 x1 x2 x3 hg⟩ hk
def acc (ls:List L):aq×Int×Int×aq:=((eU ls),(cF 1 ls),(cF 2 ls),(fP 3 ls))
def aM:jO:=CC eg pats res acc R
def af:gD Tryz.prog Ev 192 aM:=VC (live:=(fun _=>[])) (mt:=false) mix az .nil .nil (.cons (Z4.bR (nC eg)) .nil) Tryz.func192 (by kernel_rfl) run_eq
def ic (_:Nat):gA:=kg Ev aM
def bR (n:Nat):dX Tryz.prog Ev n 192 (ic n):=eR af
end Z5
namespace Z6
def F (x0:aq)(x1 x2:Int):aD:=(call (Z5.R (x0,x1,x2,[[L.str (⟨#[97,110,110]⟩:av)],[L.str (⟨#[98,111,98]⟩:av)],[L.str (⟨#[98,97,110,107]⟩:av)],[L.str (⟨#[115,104,111,112]⟩:av)],[L.str (⟨#[115,104,48,112]⟩:av)],[L.str (⟨#[53,104,111,112]⟩:av)],[L.str (⟨#[109,97,105,108]⟩:av)],[L.str (⟨#[109,97,45,105,108]⟩:av)],[L.str (⟨#[97]⟩:av)]])) fun v1=>ret ((Hl.mk,v1.2.1,v1.2.2.1,v1.2.2.2):Hl×Int×Int×av))
abbrev eg:List K:=[.sl 5,aE,aE]
def pats:List (Option fF):=[none]
def res:RP:=.one (.rd (.str))
abbrev E:Env:={ T:=assoc mC,G:=cZ [],nt:=6,M:=ff [],np:=(nC eg),mt:=false,I:=gy [(192,Z5.ic (nC eg))] }
def run_eq (n:Nat)(ls:List L):eY E (fun _=>[]) Tryz.f237 (.cur eg res.parts) n (iG eg pats ls)=F (eU ls) (cF 1 ls) (cF 2 ls):=by kernel_rfl
def gd (x0:aq)(x1 x2:Int):Prop:=CI x0 x1
def post (x0:aq)(x1 x2:Int)(y:Hl×Int×Int×av):Prop:=CI x0 y.2.1/\y.2.2.2.size<=16
def wp (x0:aq)(x1 x2:Int)(hg:gd x0 x1 x2):Wp (F x0 x1 x2) (post x0 x1 x2):=by
 unfold F
 refine Z5.eJ ⟨hg,by show 0<9;decide⟩ (fun v ⟨hv,i,hi,e⟩=>wp_ret ⟨hv,?_⟩)
 show v.2.2.2.size<=16
 rw [e]
 exact qg rfl hi
def R:(aq×Int×Int)->Option (Hl×Int×Int×av):=RQ (fun _ x=>F x.1 x.2.1 x.2.2) (fun x=>post x.1 x.2.1 x.2.2)
def eJ {x0:aq}{x1 x2:Int}{γ:Type}[RT γ]{k:(Hl×Int×Int×av)->aD}{Q:γ->Prop}(hg:gd x0 x1 x2)(hk:∀y,post x0 x1 x2 y->Wp (k y) Q):Wp (call (R (x0,x1,x2)) k) Q:=gq ⟨0,wp x0 x1 x2 hg⟩ hk
def acc (ls:List L):aq×Int×Int:=((eU ls),(cF 1 ls),(cF 2 ls))
def aM:jO:=CC eg pats res acc R
def af:gD Tryz.prog Ev 237 aM:=VC (live:=(fun _=>[])) (mt:=false) mix az .nil .nil (.cons (Z5.bR (nC eg)) .nil) Tryz.func237 (by kernel_rfl) run_eq
def ic (_:Nat):gA:=kg Ev aM
def bR (n:Nat):dX Tryz.prog Ev n 237 (ic n):=eR af
end Z6
namespace Z7
def F (x0:av)(x1:Int):aD:=ret ((⟨x0,1,x1,[]⟩):bk)
def md (a0:av)(a1:Int):ah:=(⟨a0,1,a1,[]⟩)
def gd (a0:av)(a1:Int):Prop:=True
def R:=cI gd md
def aj {a0 a1}(h:gd a0 a1):R (a0,a1)=some (ah.r (md a0 a1)):=cH h
def aM:=CN [pS,pI] (.agg f62) RT.dec R
def bn (a0)(a1)(hg:gd a0 a1):F a0 a1=ret (ah.r (md a0 a1)):=fz
def af:cj 329 aM:=W2 8 F mix az bn .nil Tryz.func329
end Z7
namespace Z8
def F (x0 x1:av):aD:=(cond (Op.bytesLess x0.toList x1.toList) mV (cond (!((Op.bytesLess x0.toList x1.toList)||(x0.toList==x1.toList))) (ret (1:Int)) (ret (0:Int))))
def md (a0 a1:av):Int:=(cond (Op.bytesLess a0.toList a1.toList) ((-1):Int) (cond (!((Op.bytesLess a0.toList a1.toList)||(a0.toList==a1.toList))) (1:Int) (0:Int)))
def gd (a0 a1:av):Prop:=True
def R:=cI gd md
def aj {a0 a1}(h:gd a0 a1):R (a0,a1)=some (md a0 a1):=cH h
def aM:=CN [pS,pS] oI RT.dec R
def bn (a0)(a1)(hg:gd a0 a1):F a0 a1=ret (md a0 a1):=by
 refine bs (fun _=>rfl) (fun c1=>?_)
 refine bs (fun _=>rfl) (fun _=>rfl)
def af:cj 102 aM:=W2 13 F mix az bn .nil Tryz.func102
def vals (a b:av):md a b=-1∨md a b=0∨md a b=1:=by
 unfold md
 cases Op.bytesLess a.toList b.toList
 ·cases (!(false||(a.toList==b.toList)))<;>simp
 ·simp
def lt (a b:av):decide (md a b<0)=(md a b == -1):=by
 rcases vals a b with h | h | h<;>rw [h]<;>rfl
def gt (a b:av):decide (md a b>0)=(md a b==1):=by
 rcases vals a b with h | h | h<;>rw [h]<;>rfl
def bl:∀a b:List UInt8,(Op.bytesLess a b||a==b)=!(Op.bytesLess b a)
 | [],[]=>by simp [Op.bytesLess]
 | [],_::_=>by simp [Op.bytesLess]
 | _::_,[]=>by simp [Op.bytesLess]
 | a::xs,b::ys=>by
  have ih:=bl xs ys
  simp only [Op.bytesLess]
  by_cases h1:a<b
  ·have h2:¬b<a:=UInt8.not_lt.2 (UInt8.le_of_lt h1)
   have h3:¬b=a:=fun h=>by subst h;exact UInt8.lt_irrefl _ h1
   simp [h1,h2,h3]
  ·by_cases h2:a=b
   ·subst h2
    have hr:¬a<a:=UInt8.lt_irrefl a
    simp only [hr,decide_false,Bool.false_or,beq_self_eq_true,Bool.true_and,List.cons_beq_cons]
    exact ih
   ·have h3:b<a:=by
     rcases UInt8.lt_or_lt_of_ne h2 with h | h
     ·exact (h1 h).elim
     ·exact h
    simp [h1,h2,h3,List.cons_beq_cons]
def swap (a b:av):decide (md a b<=0)=(md b a != -1):=by
 unfold md
 rw [bl a.toList b.toList,bl b.toList a.toList]
 have h:=bl a.toList b.toList
 cases h1:Op.bytesLess a.toList b.toList<;>cases h2:Op.bytesLess b.toList a.toList<;>rw [h1,h2] at h<;>simp at h ⊢
end Z8
namespace Z9
def F (x0:aq):aD:=(cA (eK (x0.length*16)) (ret (x0:aq)))
def md (a0:List av):List av:=a0
def gd (a0:List av):Prop:=(bg (2^21) (fun y:av=>y.size<=(2^21)) a0)
def R:=RR gd md
def aj {a0}(h:gd a0):R (a0.map dL)=some (a0.map dL):=cQ h
def aM:=CN [pL 9] (oL 9) RT.dec R
def bn (a0)(H0:gd a0):F (a0.map dL)=ret ((md a0).map dL):=aG (have:=(H0).1;lm) fz
def af:cj 185 aM:=W1 6 F mix az bn .nil Tryz.func185
end Z9
namespace Z10
def F (x0:bk):aD:=(call (Z9.R x0.bC) fun v1=>ret ((⟨x0.aS,x0.bt,x0.bO,v1⟩):bk))
def md (a0:ah):ah:=a0
def gd (a0:ah):Prop:=(ah.Sm (2^21) a0)
def R:=RR gd md
def aj {a0}(h:gd a0):R (ah.r a0)=some (ah.r a0):=cQ h
def aM:=CN [.agg vZ] (.agg f62) RT.dec R
def bn (a0)(H0:gd a0):F (ah.r a0)=ret (ah.r (md a0)):=ct (Z9.aj H0.2) fz
def af:cj 168 aM:=W1 13 F mix az bn (cO Z9.af) Tryz.func168
end Z10
namespace Z11
def F (x0 x1 x2:Int):aD:=(cond (x0>=x1) (ret ((decide (x0<=x2)))) (ret false))
def md (a0 a1 a2:Int):Bool:=(cond (a0>=a1) ((decide (a0<=a2))) false)
def gd (a0 a1 a2:Int):Prop:=True
def R:=lP gd md
def aj {a0 a1 a2}(h:gd a0 a1 a2):R (a0,a1,a2)=some (md a0 a1 a2):=mq h
def aM:=CN [pI,pI,pI] oB RT.dec R
def bn (a0)(a1)(a2)(hg:gd a0 a1 a2):F a0 a1 a2=ret (md a0 a1 a2):=by
 refine bs (fun c1=>?_) (fun _=>rfl)
 exact fz
def af:cj 190 aM:=W3 15 F mix az bn .nil Tryz.func190
end Z11
namespace Z12
inductive Pt where
 | p0 (a:av) (b:Int)
def cM:Pt->List V
 | .p0 a b=>[.str a,.int .i64 b]
def step (J:Pt->aD):Pt->aD
 | .p0 a b=>(cond (b<(a.size:Int)) (m2 b (a.size:Int) (cond ((eF a (toNat b))<97) (m2 b (a.size:Int) (cond ((eF a (toNat b))<48) (m2 b (a.size:Int) (cond ((eF a (toNat b)) != 45) eM (J (.p0 a (i64.wrap (b+1)))))) (m2 b (a.size:Int) (cond ((eF a (toNat b))>57) (m2 b (a.size:Int) (cond ((eF a (toNat b)) != 45) eM (J (.p0 a (i64.wrap (b+1)))))) (J (.p0 a (i64.wrap (b+1)))))))) (m2 b (a.size:Int) (cond ((eF a (toNat b))>122) (m2 b (a.size:Int) (cond ((eF a (toNat b))<48) (m2 b (a.size:Int) (cond ((eF a (toNat b)) != 45) eM (J (.p0 a (i64.wrap (b+1)))))) (m2 b (a.size:Int) (cond ((eF a (toNat b))>57) (m2 b (a.size:Int) (cond ((eF a (toNat b)) != 45) eM (J (.p0 a (i64.wrap (b+1)))))) (J (.p0 a (i64.wrap (b+1)))))))) (J (.p0 a (i64.wrap (b+1)))))))) nS)
def start (J:Pt->aD)(x0:av):aD:=(call (Z11.R (x0.size,1,8)) fun v1=>(cond (!v1) (ret false) (cA ((0:Int)<x0.size) (cond ((eF x0 0)==45) (ret false) (cA ((0:Int)<=(i64.wrap (x0.size - 1))) (cA ((i64.wrap (x0.size - 1))<x0.size) (cond ((eF x0 (toNat (i64.wrap (x0.size - 1))))==45) (ret false) (J (.p0 x0 0)))))))))
def live:Nat->Live:=gL [(4,jC [0,3])]
def md (a0:av):Bool:=(bif (!(Z11.md a0.size 1 8)) then false else (bif ((eF a0 0)==45) then false else (bif ((eF a0 (toNat (i64.wrap (a0.size - 1))))==45) then false else (eB (S:=Unit) (β:=Bool) (fun i4 s6=>(cond ((eF a0 i4)<97) (cond ((eF a0 i4)<48) (cond ((eF a0 i4) != 45) (.inr false) (.inl ())) (cond ((eF a0 i4)>57) (cond ((eF a0 i4) != 45) (.inr false) (.inl ())) (.inl ()))) (cond ((eF a0 i4)>122) (cond ((eF a0 i4)<48) (cond ((eF a0 i4) != 45) (.inr false) (.inl ())) (cond ((eF a0 i4)>57) (cond ((eF a0 i4) != 45) (.inr false) (.inl ())) (.inl ()))) (.inl ())))) (fun s6=>true) a0.size 0 ()))))
def gd (a0:av):Prop:=(a0.size<=(2^22))
def R:=RR gd md
def aj {a0}(h:gd a0):R a0=some (md a0):=cQ h
def aM:=CN [pS] oB RT.dec R
def bn (a0)(H0:gd a0):∃n,start (iter step n) a0=ret (md a0):=by
 refine cx (Z11.aj trivial) (gE ret (fun _=>⟨0,rfl⟩) (fun c1=>?_))
 have Dc1:=c1
 simp [Z11.md] at Dc1
 refine dP (have:=H0;dt) (gE ret (fun _=>⟨0,rfl⟩) (fun c2=>?_))
 refine dP (have:=H0;dt) (dP (have:=H0;dt) ?_)
 refine gE ret (fun _=>⟨0,rfl⟩) (fun c3=>?_)
 have Bh5:a0.size<=maxLen:=(by
   simp only [maxLen] at *
   omega)
 refine dy fz (bH (pt:=fun (i4:Nat) (s6:Unit)=>Pt.p0 a0 (i4:Int)) (fun _ _=>True) (fun J i4 s6 h5 hih5=>?_) (fun s6 hih5=>?_) trivial)
 ·simp only [step,SS]
  refine aP.yes dt (aP.yes bB ?_)
  refine aP.yes (bQ h5) (aP.bif (fun c7=>?_) (fun c7=>?_))
  ·refine aP.yes bB (aP.yes (bQ h5) ?_)
   refine aP.bif (fun c8=>?_) (fun c8=>?_)
   ·refine aP.yes bB (aP.yes (bQ h5) ?_)
    refine aP.bif (fun _=>aP.inr rfl) (fun c9=>?_)
    refine aP.inl trivial ?_
    rw [aF h5 Bh5]
   ·refine aP.yes bB (aP.yes (bQ h5) ?_)
    refine aP.bif (fun c10=>?_) (fun c10=>?_)
    ·refine aP.yes bB (aP.yes (bQ h5) ?_)
     refine aP.bif (fun _=>aP.inr rfl) (fun c11=>?_)
     refine aP.inl trivial ?_
     rw [aF h5 Bh5]
    ·refine aP.inl trivial ?_
     rw [aF h5 Bh5]
  ·refine aP.yes bB (aP.yes (bQ h5) ?_)
   refine aP.bif (fun c12=>?_) (fun c12=>?_)
   ·refine aP.yes bB (aP.yes (bQ h5) ?_)
    refine aP.bif (fun c13=>?_) (fun c13=>?_)
    ·refine aP.yes bB (aP.yes (bQ h5) ?_)
     refine aP.bif (fun _=>aP.inr rfl) (fun c14=>?_)
     refine aP.inl trivial ?_
     rw [aF h5 Bh5]
    ·refine aP.yes bB (aP.yes (bQ h5) ?_)
     refine aP.bif (fun c15=>?_) (fun c15=>?_)
     ·refine aP.yes bB (aP.yes (bQ h5) ?_)
      refine aP.bif (fun _=>aP.inr rfl) (fun c16=>?_)
      refine aP.inl trivial ?_
      rw [aF h5 Bh5]
     ·refine aP.inl trivial ?_
      rw [aF h5 Bh5]
   ·refine aP.inl trivial ?_
    rw [aF h5 Bh5]
 ·simp only [step,SS]
  refine cL dn (⟨0,?_⟩)
  exact fz
def af:cj 189 aM:=L1 55 (fun _=>4) cM (fun _=>[]) live step start mix az bn (cO Z11.af) Tryz.func189
def tr {a0:av}(h:md a0=true):1<=a0.size/\a0.size<=8:=by
 unfold md at h
 cases e:Z11.md (a0.size:Int) 1 8
 ·rw [e] at h;cases h
 ·simp [Z11.md] at e;omega
end Z12
namespace Z13
inductive Pt where
 | p0 (a:aq) (b:Int)
def cM:Pt->List V
 | .p0 a b=>[.sl none 9 a,.int .i64 b]
def step (J:Pt->aD):Pt->aD
 | .p0 a b=>(cond (b<(a.length:Int)) (m2 b (a.length:Int) (call (Z12.R (tS a (toNat b))) fun v1=>(cond (!v1) eM (J (.p0 a (i64.wrap (b+1))))))) (call (Z11.R ((a.length:Int),1,4)) fun v2=>ret (v2:Bool)))
def start (J:Pt->aD)(x0:aq):aD:=J (.p0 x0 0)
def live:Nat->Live:=gL [(2,jC [0,3])]
def md (a0:List av):Bool:=(dM (S:=Unit) (β:=Bool) (fun y1 s3=>(cond (!(Z12.md y1)) (.inr false) (.inl ()))) (fun s3=>((Z11.md a0.length 1 4))) a0 ())
def gd (a0:List av):Prop:=(bg (2^22) (fun y:av=>y.size<=(2^22)) a0)
def R:=RR gd md
def aj {a0}(h:gd a0):R (a0.map dL)=some (md a0):=cQ h
def aM:=CN [pL 9] oB RT.dec R
def bn (a0)(H0:gd a0):∃n,start (iter step n) (a0.map dL)=ret (md a0):=by
 have Bh2:=bl H0
 refine ex_eq (dZ (z:=⟨#[]⟩)) (dy fz ?_)
 refine bH (pt:=fun (i1:Nat) (s3:Unit)=>Pt.p0 (a0.map dL) (i1:Int)) (fun _ _=>True) (fun J i1 s3 h2 hih2=>?_) (fun s3 hih2=>?_) trivial
 ·simp only [step,SS]
  refine aP.yes dt (aP.yes bB ?_)
  refine aP.yes (bQ h2) (cr (Z12.aj (bg.getD H0 h2)) ?_)
  refine aP.bif (fun _=>aP.inr rfl) (fun c4=>?_)
  refine aP.inl trivial ?_
  rw [aF h2 Bh2]
 ·simp only [step,SS]
  refine cL dn (cx (Z11.aj trivial) ?_)
  refine ⟨0,?_⟩
  exact fz
def af:cj 65 aM:=L1 19 (fun _=>2) cM (fun _=>[]) live step start mix az bn (fc Z12.af Z11.af) Tryz.func65
def tr {a0:List av}(h:md a0=true):(1<=a0.length/\a0.length<=4)/\∀x∈a0,x.size<=8:=by
 have e:=nF (p:=fun y=>!(Z12.md y)) (b:=false) (c:=Z11.md (a0.length:Int) 1 4) (xs:=a0) (s:=())
 rw [show md a0=_ from e] at h
 cases ha:a0.any (fun y=>!(Z12.md y))<;>rw [ha] at h
 ·have h2:Z11.md (a0.length:Int) 1 4=true:=h
  simp [Z11.md] at h2
  refine ⟨by omega,fun x hx=>?_⟩
  rw [List.any_eq_false] at ha
  have:=ha x hx
  exact (Z12.tr (by simpa using this)).2
 ·cases h
def tl {x:av}{xs:List av}(h:md (x::xs)=true)(hx:¬xs.length=0):md xs=true:=by
 have key:∀a:List av,md a=bif a.any (fun y=>!(Z12.md y)) then false else Z11.md (a.length:Int) 1 4:=fun a=>nF (b:=false) (c:=Z11.md (a.length:Int) 1 4) (xs:=a)
 have t:=tr h
 simp only [List.length_cons] at t
 rw [key] at h ⊢
 rw [List.any_cons] at h
 cases h1:xs.any (fun y=>!(Z12.md y)) with
 | true=>rw [h1,Bool.or_true] at h;cases h
 | false=>simp [Z11.md];omega
end Z13
namespace Z14
def F (x0:bk):aD:=(cond (x0.bt==1) (call (Z12.R x0.aS) fun v1=>(cond v1 (call (Z11.R (x0.bO,0,999999)) fun v2=>(cond v2 (ret (((x0.bC.length:Int)==0))) (ret false))) (ret false))) (cond (x0.bt==2) (call (Z12.R x0.aS) fun v3=>(cond v3 (call (Z11.R (x0.bO,0,2147483646)) fun v4=>(cond v4 (ret (((x0.bC.length:Int)==0))) (ret false))) (ret false))) (cond (x0.bt==3) (call (Z12.R x0.aS) fun v5=>(cond v5 (call (Z11.R (x0.bO,0,2147483646)) fun v6=>(cond v6 (call (Z13.R x0.bC) fun v7=>ret v7) (ret false))) (ret false))) (ret false))))
def md (a0:ah):Bool:=(cond (a0.bt==1) (cond (Z12.md a0.aS) (cond (Z11.md a0.bO 0 999999) (((a0.bC.length:Int)==0)) false) false) (cond (a0.bt==2) (cond (Z12.md a0.aS) (cond (Z11.md a0.bO 0 2147483646) (((a0.bC.length:Int)==0)) false) false) (cond (a0.bt==3) (cond (Z12.md a0.aS) (cond (Z11.md a0.bO 0 2147483646) ((Z13.md a0.bC)) false) false) false)))
def gd (a0:ah):Prop:=(ah.Sm (2^21) a0)
def R:=RR gd md
def aj {a0}(h:gd a0):R (ah.r a0)=some (md a0):=cQ h
def aM:=CN [.agg vZ] oB RT.dec R
def bn (a0)(H0:gd a0):F (ah.r a0)=ret (md a0):=by
 refine bs (fun c1=>?_) (fun c1=>?_)
 ·refine ct (Z12.aj (le_trans H0.1 (by decide))) (bs (fun c2=>?_) (fun _=>rfl))
  refine ct (Z11.aj trivial) (bs (fun c3=>?_) (fun _=>rfl))
  exact fz
 ·refine bs (fun c4=>?_) (fun c4=>?_)
  ·refine ct (Z12.aj (le_trans H0.1 (by decide))) (bs (fun c5=>?_) (fun _=>rfl))
   refine ct (Z11.aj trivial) (bs (fun c6=>?_) (fun _=>rfl))
   exact fz
  ·refine bs (fun c7=>?_) (fun _=>rfl)
   refine ct (Z12.aj (le_trans H0.1 (by decide))) (bs (fun c8=>?_) (fun _=>rfl))
   refine ct (Z11.aj trivial) (bs (fun c9=>?_) (fun _=>rfl))
   exact ct (Z13.aj (H0.2.mono (by decide) (fun x hx=>(le_trans hx (by decide))))) fz
def af:cj 316 aM:=W1 52 F mix az bn (jB Z12.af Z11.af Z13.af) Tryz.func316
end Z14
namespace Z15
inductive Pt where
 | p0 (a:aq) (b:Int)
def cM:Pt->List V
 | .p0 a b=>[.sl none 62 a,.int .i64 b]
def step (J:Pt->aD):Pt->aD
 | .p0 a b=>(cond (b<(a.length:Int)) (m2 b (a.length:Int) (call (Z14.R (bk.at a (toNat b))) fun v1=>(cond (!v1) eM (cond (b>0) (cA ((0:Int)<=(i64.wrap (b - 1))) (cA ((i64.wrap (b - 1))<(a.length:Int)) (m2 b (a.length:Int) (call (Z8.R ((bk.at a (toNat (i64.wrap (b - 1)))).aS,(bk.at a (toNat b)).aS)) fun v2=>(cond (v2 != (-1)) eM (J (.p0 a (i64.wrap (b+1))))))))) (J (.p0 a (i64.wrap (b+1)))))))) (ret ((decide ((a.length:Int)<=12)):Bool)))
def start (J:Pt->aD)(x0:aq):aD:=J (.p0 x0 0)
def live:Nat->Live:=gL [(2,jC [0,3])]
def md (a0:List ah):Bool:=(dY (S:=Unit) (β:=Bool) (fun (i1:Nat) (y1:ah) (s3:Unit)=>(cond (!(Z14.md y1)) (.inr (false:Bool)) (cond ((i1:Int)>0) (cond ((Z8.md ((a0.getD (toNat (i64.wrap ((i1:Int) - 1))) ah.zero).aS) (y1.aS)) != (-1)) (.inr (false:Bool)) (.inl ())) (.inl ())))) (fun (s3:Unit)=>((decide ((a0.length:Int)<=12)):Bool)) 0 a0 ())
def gd (a0:List ah):Prop:=(bg (2^21) (fun y:ah=>ah.Sm (2^21) y) a0)
def R:=RR gd md
def aj {a0}(h:gd a0):R (a0.map ah.row)=some (md a0):=cQ h
def aM:=CN [pL 62] oB RT.dec R
def bn (a0)(hg:gd a0):∃n,start (iter step n) (a0.map ah.row)=ret (md a0):=by
 unfold gd at hg
 have H0:=hg
 unfold start md
 try simp only [SS]
 have Bh2:a0.length<=maxLen:=(by
   have:=(H0).1
   try simp only [maxLen] at *
   omega)
 refine ex_eq (out:=ret) (cK (z:=ah.zero)) ?_
 refine dy (p:=Pt.p0 (a0.map ah.row) 0) fz ?_
 refine bH (pt:=fun (i1:Nat) (s3:Unit)=>Pt.p0 (a0.map ah.row) (i1:Int)) (s:=(():Unit)) (out:=ret) (fun _ _=>True) (fun J i1 s3 h2 hih2=>?_) (fun s3 hih2=>?_) trivial
 ·simp only [step,SS]
  have bb_:=Bh2
  simp only [maxLen] at bb_
  have:=(H0).1
  refine aP.yes (by apply decide_eq_true;omega) ?_
  refine aP.yes bB ?_
  refine aP.yes (bQ h2) ?_
  refine cr (Z14.aj (bg.getD (z:=ah.zero) H0 h2)) ?_
  refine aP.bif (fun _=>aP.inr rfl) (fun c4=>?_)
  have dc4:=c4
  try simp only [DC] at dc4
  refine aP.bif (fun c5=>?_) (fun c5=>?_)
  ·have dc5:=c5
   try simp only [DC] at dc5
   refine aP.yes dt ?_
   refine aP.yes (have:=(H0).1;dt) ?_
   refine aP.yes bB ?_
   refine aP.yes (bQ h2) ?_
   refine cr (Z8.aj trivial) ?_
   refine aP.bif (fun _=>aP.inr rfl) (fun c6=>?_)
   refine aP.inl trivial ?_
   rw [aF h2 Bh2]
   all_goals exact fz
  ·refine aP.inl trivial ?_
   rw [aF h2 Bh2]
   all_goals exact fz
 ·simp only [step,SS]
  have:=(H0).1
  refine cL (by apply decide_eq_false;omega) ?_
  refine ⟨0,?_⟩
  all_goals exact fz
def af:cj 307 aM:=L1 38 (fun _=>2) cM (fun _=>[]) live step start mix az bn (fc Z14.af Z8.af) Tryz.func307
def tr {a0:List ah}(h:md a0=true):a0.length<=12:=by
 refine Classical.byContradiction fun hc=>?_
 have e1:decide ((a0.length:Int)<=12)=false:=by apply decide_eq_false;omega
 unfold md at h
 rw [e1] at h
 rw [kL (c:=false)] at h
 ·cases h
 ·intro i x s b h
  revert h
  simp only [Bool.cond_eq_ite]
  repeat' split
  all_goals (intro h;first | (cases h;rfl) | cases h)
end Z15
namespace Z16
inductive Pt where
 | p0 (a:aq) (b:Int) (c:aq)
def cM:Pt->List V
 | .p0 a b c=>[.sl none 62 a,.own 0,.int .i64 b]
def dQ:Pt->List aK
 | .p0 a b c=>[.row 62 c]
def step (J:Pt->aD):Pt->aD
 | .p0 a b c=>(cond (b<(a.length:Int)) (m2 b (a.length:Int) (call (Z10.R (bk.at a (toNat b))) fun v1=>(cA (eK (((c.length:Int)+1)*56)) (J (.p0 a (i64.wrap (b+1)) (c++[(bk.enc v1)])))))) (ret (c:aq)))
def start (J:Pt->aD)(x0:aq):aD:=J (.p0 x0 0 [])
def live:Nat->Live:=gL [(3,[(0,none),(3,some 62),(4,none)])]
def md (a0:List ah):List ah:=a0
def gd (a0:List ah):Prop:=(bg (2^21) (fun y:ah=>ah.Sm (2^21) y) a0)
def R:=RR gd md
def aj {a0}(h:gd a0):R (a0.map ah.row)=some (a0.map ah.row):=cQ h
def aM:=CN [pL 62] (oL 62) RT.dec R
def bn (a0)(H0:gd a0):∃n,start (iter step n) (a0.map ah.row)=ret ((md a0).map ah.row):=by
 have Bh2:=bl H0
 refine ex_eq (out:=(fun b:List ah=>ret ((b.map ah.row):aq))) (gZ (xs:=a0) (z:=ah.zero) (t:=fun s3:List ah=>s3)) (dy fz ?_)
 refine bH (pt:=fun (i1:Nat) (s3:List ah)=>Pt.p0 (a0.map ah.row) (i1:Int) (s3.map ah.row)) (s:=([]:List ah)) (out:=(fun b:List ah=>ret ((b.map ah.row):aq))) (fun (i1:Nat) (s3:List ah)=>s3.length<=([]:List Int).length+1*i1) (fun J i1 s3 h2 hih2=>?_) (fun s3 hih2=>?_) (by simp)
 ·simp only [step,SS]
  have gr_:=hih2
  simp only [LN] at gr_
  have:=(H0).1
  refine aP.yes dt (aP.yes bB ?_)
  refine aP.yes (bQ h2) (cr (Z10.aj (bg.getD H0 h2)) ?_)
  refine aP.yes lm ?_
  refine aP.inl (by
    (simp;omega)) ?_
  rw [aF h2 Bh2]
  exact fz
 ·simp only [step,SS]
  refine cL dn (⟨0,?_⟩)
  exact fz
def af:cj 327 aM:=L1 21 (fun _=>3) cM dQ live step start mix az bn (cO Z10.af) Tryz.func327
end Z16
namespace Z17
inductive Pt where
 | p0 (a:aq) (b:Bool) (c:Int) (d:bk) (e:aq)
def pid:Pt->Nat
 | .p0 ..=>4
def cM:Pt->List V
 | .p0 a b c d e=>[.sl none 62 a,.bP 0 0,.own 1,.bool b,.int .i64 c]
def dQ:Pt->List aK
 | .p0 a b c d e=>[.box [.str d.aS,.int .i64 d.bt,.int .i64 d.bO,.sl none 9 d.bC],.row 62 e]
def step (J:Pt->aD):Pt->aD
 | .p0 a b c d e=>(cond (c<(a.length:Int)) (m2 c (a.length:Int) (call (Z8.R ((bk.at a (toNat c)).aS,d.aS)) fun v1=>(cond (v1>=0) (cond (!b) (call (Z10.R d) fun v2=>(cA (eK (((e.length:Int)+1)*56)) (cond (v1 != 0) (m2 c (a.length:Int) (call (Z10.R (bk.at a (toNat c))) fun v3=>(cA (eK ((((e++[(bk.enc v2)]).length:Int)+1)*56)) (J (.p0 a true (i64.wrap (c+1)) d ((e++[(bk.enc v2)])++[(bk.enc v3)])))))) (J (.p0 a true (i64.wrap (c+1)) d (e++[(bk.enc v2)])))))) (cond (v1 != 0) (m2 c (a.length:Int) (call (Z10.R (bk.at a (toNat c))) fun v4=>(cA (eK (((e.length:Int)+1)*56)) (J (.p0 a b (i64.wrap (c+1)) d (e++[(bk.enc v4)])))))) (J (.p0 a b (i64.wrap (c+1)) d e)))) (cond (v1 != 0) (m2 c (a.length:Int) (call (Z10.R (bk.at a (toNat c))) fun v5=>(cA (eK (((e.length:Int)+1)*56)) (J (.p0 a b (i64.wrap (c+1)) d (e++[(bk.enc v5)])))))) (J (.p0 a b (i64.wrap (c+1)) d e)))))) (cond (!b) (call (Z10.R d) fun v6=>(cA (eK (((e.length:Int)+1)*56)) (call (Z15.R a) fun v7=>(cond (!v7) (call (Z16.R a) fun v8=>ret ((v8,false):aq×Bool)) (call (Z15.R (e++[(bk.enc v6)])) fun v9=>(cond (!v9) (call (Z16.R a) fun v10=>ret ((v10,false):aq×Bool)) (ret (((e++[(bk.enc v6)]),true):aq×Bool)))))))) (call (Z15.R a) fun v11=>(cond (!v11) (call (Z16.R a) fun v12=>ret ((v12,false):aq×Bool)) (call (Z15.R e) fun v13=>(cond (!v13) (call (Z16.R a) fun v14=>ret ((v14,false):aq×Bool)) (ret ((e,true):aq×Bool))))))))
def start (J:Pt->aD)(x0:aq)(x1:bk):aD:=J (.p0 x0 false 0 x1 [])
def live:Nat->Live:=gL [(4,[(0,none),(3,none),(6,some 62),(7,none),(8,none)])]
def pats:List fF:=[.rd (.sl 62),.agg [.str,aE,aE,.sl 9]]
def res:RP:=.gW [(false,[.fr 62]),(false,[.rd (.bool)])]
abbrev E:Env:={ T:=assoc mC,G:=cZ [(102,Z8.aM),(168,Z10.aM),(307,Z15.aM),(327,Z16.aM)],nt:=64,M:=ff [],np:=0,mt:=false,I:=gy [] }
def step_eq (I:dD)(p:Pt):dU E live I (pid p) (bL Tryz.f273) (iT (live (pid p)) (cM p) (dQ p)) (dA E Tryz.f273 res)=step (fun q=>I (pid q) (cM q) (dQ q)) p:=by
 cases p<;>kernel_rfl
def start_eq (I:dD)(ls:List L):gO E live I (bL Tryz.f273) (dJ pats ls) (dA E Tryz.f273 res)=start (fun q=>I (pid q) (cM q) (dQ q)) (eU ls) (bk.dec (bA 1 ls)):=by kernel_rfl
def run_eq (n:Nat)(ls:List L):eY E live Tryz.f273 res n (dJ pats ls)=start (iter step n) (eU ls) (bk.dec (bA 1 ls)):=dI (id:=pid) (vs:=cM) (hs:=dQ) (step:=step) (start:=fun J=>start J (eU ls) (bk.dec (bA 1 ls))) step_eq (fun I=>start_eq I ls) n
def gd (x0:aq)(x1:bk):Prop:=(∃m:List ah,x0=m.map ah.row/\bg 1000 (fun z:ah=>ah.Sm 64 z) m/\Z15.md m=true)/\∃e:ah,x1=ah.r e/\ah.Sm 64 e
def post (x0:aq)(x1:bk)(y:aq×Bool):Prop:=∃m:List ah,y.1=m.map ah.row/\bg (x0.length+1) (fun z:ah=>ah.Sm 64 z) m/\Z15.md m=true
def wp (x0:aq)(x1:bk)(hg:gd x0 x1):∃n,Wp (start (iter step n) x0 x1) (post x0 x1):=by
 obtain ⟨⟨m,rfl,hm,ha⟩,e0,rfl,he⟩:=hg
 have big:∀{z:ah},ah.Sm 64 z->ah.Sm (2^21) z:=fun h=>ah.dV (by decide) h
 have hmb:bg (2^21) (fun z:ah=>ah.Sm (2^21) z) m:=hm.mono (by decide) fun _ h=>big h
 have hlen:=hm.1
 refine ⟨m.length+2,kH (fun p=>match p with | .p0 a b c d e=>a=m.map ah.row/\d=ah.r e0/\0<=c/\c<=m.length/\∃es:List ah,e=es.map ah.row/\(es.length:Int)<=c+(cond b 1 0)/\∀z∈es,ah.Sm 64 z) (fun p=>match p with | .p0 a b c d e=>((m.length:Int) - c).toNat) (fun J p hI hJ=>?_) _ _ ⟨rfl,rfl,Int.le_refl _,by omega,[],rfl,by show (0:Int)<=0+0;decide,fun _ h=>(nomatch h)⟩ (by show ((m.length:Int) - 0).toNat<_;omega)⟩
 obtain ⟨a,b,c,d,e⟩:=p
 obtain ⟨rfl,rfl,h1,h2,es,rfl,h3,h4⟩:=hI
 have hb:(cond b (1:Int) 0)<=1:=by cases b<;>decide
 have add:∀(es:List ah) (z:ah),(es.map ah.row)++[bk.enc (ah.r z)]=(es++[z]).map ah.row:=fun es z=>by rw [List.map_append];rfl
 have two:∀{es:List ah} {z:ah},(∀z∈es,ah.Sm 64 z)->ah.Sm 64 z->∀y∈es++[z],ah.Sm 64 y:=fun h1 h2 y hy=>(List.mem_append.1 hy).elim (h1 y) fun h=>by simp at h;subst h;exact h2
 have fin:∀(es:List ah),(es.length:Int)<=m.length+1->(∀z∈es,ah.Sm 64 z)->Wp (call (Z15.R (m.map ah.row)) fun v7=>(cond (!v7) (call (Z16.R (m.map ah.row)) fun v8=>ret ((v8,false):aq×Bool)) (call (Z15.R (es.map ah.row)) fun v9=>(cond (!v9) (call (Z16.R (m.map ah.row)) fun v10=>ret ((v10,false):aq×Bool)) (ret ((es.map ah.row,true):aq×Bool)))))) (post (m.map ah.row) (ah.r e0)):=by
  intro es hl hs
  have hp:∀q:Bool,post (m.map ah.row) (ah.r e0) (m.map ah.row,q):=fun q=>⟨m,rfl,⟨by rw [List.length_map];omega,hm.2⟩,ha⟩
  refine bX (Z15.aj hmb) (wp_cond (fun _=>bX (Z16.aj hmb) (wp_ret (hp _))) (fun _=>bX (Z15.aj ⟨by omega,fun z hz=>big (hs z hz)⟩) (wp_cond (fun _=>bX (Z16.aj hmb) (wp_ret (hp _))) (fun hq=>wp_ret ⟨es,rfl,⟨by rw [List.length_map];omega,hs⟩,by simpa using hq⟩))))
 refine wp_cond (fun c1=>?_) (fun c1=>?_)
 ·have c1:=of_decide_eq_true c1
  rw [List.length_map] at c1
  have e1:i64.wrap (c+1)=c+1:=wi _ (by omega)
  have hc0:c.toNat<m.length:=by omega
  have hat:bk.at (m.map ah.row) (toNat c)=ah.r (m[c.toNat]):=ah.sW hc0
  have hSm:ah.Sm 64 m[c.toNat]:=hm.get hc0
  have hcl:c<((m.map ah.row).length:Int):=by rw [List.length_map];exact c1
  have lm:∀es:List ah,(es.length:Int)<=m.length+2->eK (((es.map ah.row).length+1:Int)*56)=true:=fun es h=>gC (by rw [List.length_map];omega)
  have go:∀(b2:Bool) (es2:List ah),(es2.length:Int)<=c+1+(cond b2 1 0)->(∀z∈es2,ah.Sm 64 z)->Wp (J (.p0 (m.map ah.row) b2 (i64.wrap (c+1)) (ah.r e0) (es2.map ah.row))) (post (m.map ah.row) (ah.r e0)):=fun b2 es2 hl hs=>
   hJ _ ⟨rfl,rfl,by show 0<=i64.wrap (c+1);omega,by show i64.wrap (c+1)<=_;omega,es2,rfl,by rw [e1];exact hl,hs⟩ (by show ((m.length:Int) - i64.wrap (c+1)).toNat<((m.length:Int) - c).toNat;omega)
  refine tN h1 hcl ?_
  rw [hat]
  refine bX (Z8.aj trivial) (wp_cond (fun _=>wp_cond (fun cb=>?_) (fun _=>?_)) (fun _=>?_))
  ·have hbf:b=false:=by simpa using cb
   subst hbf
   have h3:(es.length:Int)<=c+0:=h3
   refine bX (Z10.aj (big he)) (fE (lm es (by omega)) ?_)
   rw [add]
   refine wp_cond (fun _=>tN h1 hcl (bX (Z10.aj (big hSm)) (fE (lm _ (by simp;omega)) ?_))) (fun _=>go true _ (by simp;omega) (two h4 he))
   rw [add]
   exact go true _ (by simp;omega) (two (two h4 he) hSm)
  ·refine wp_cond (fun _=>tN h1 hcl (bX (Z10.aj (big hSm)) (fE (lm es (by omega)) ?_))) (fun _=>go b es (by omega) h4)
   rw [add]
   exact go b _ (by simp;omega) (two h4 hSm)
  ·refine wp_cond (fun _=>tN h1 hcl (bX (Z10.aj (big hSm)) (fE (lm es (by omega)) ?_))) (fun _=>go b es (by omega) h4)
   rw [add]
   exact go b _ (by simp;omega) (two h4 hSm)
 ·refine wp_cond (fun cb=>?_) (fun _=>fin es (by omega) h4)
  have hbf:b=false:=by simpa using cb
  subst hbf
  have h3:(es.length:Int)<=c+0:=h3
  refine bX (Z10.aj (big he)) (fE (gC (by rw [List.length_map];omega)) ?_)
  rw [add]
  exact fin _ (by simp;omega) (two h4 he)
def R:(aq×bk)->Option (aq×Bool):=RQ (fun n x=>start (iter step n) x.1 x.2) (fun x=>post x.1 x.2)
def eJ {x0:aq}{x1:bk}{γ:Type}[RT γ]{k:(aq×Bool)->aD}{Q:γ->Prop}(hg:gd x0 x1)(hk:∀y,post x0 x1 y->Wp (k y) Q):Wp (call (R (x0,x1)) k) Q:=gq (wp x0 x1 hg) hk
def acc (ls:List L):aq×bk:=((eU ls),(bk.dec (bA 1 ls)))
def aM:gj:=CN pats res acc R
def af:cj 273 aM:=VQ (live:=live) (mt:=false) mix az (nP Z8.af Z10.af Z15.af Z16.af) .nil .nil Tryz.func273 (by kernel_rfl) run_eq
end Z17
namespace Z18
inductive Pt where
 | p0 (a b c:Int) (d e:aq)
def pid:Pt->Nat
 | .p0 ..=>3
def cM:Pt->List V
 | .p0 a b c d e=>[.bP 0 0,.own 2,.int .i64 a]
def dQ:Pt->List aK
 | .p0 a b c d e=>[.box [.own 1,.int .i64 b,.int .i64 c],.vw 5 d,.row 62 e]
def step (J:Pt->aD):Pt->aD
 | .p0 a b c d e=>(cond (a>0) (call (Z6.R (d,b,c)) fun v1=>(call (Z4.R (d,v1.2.1,v1.2.2.1,50)) fun v2=>(call (Z7.R (v1.2.2.2,v2.2.2.2)) fun v3=>(call (Z17.R (e,v3)) fun v4=>J (.p0 (i64.wrap (a - 1)) v2.2.1 v2.2.2.1 d v4.1))))) (ret ((Hl.mk,b,c,e):Hl×Int×Int×aq)))
def start (J:Pt->aD)(x0:aq)(x1 x2:Int):aD:=(call (Z4.R (x0,x1,x2,4)) fun v1=>J (.p0 v1.2.2.2 v1.2.1 v1.2.2.1 x0 []))
def live:Nat->Live:=gL [(3,[(0,none),(3,some 62),(4,none)])]
abbrev eg:List K:=[.sl 5,aE,aE]
def pats:List (Option fF):=[none]
def res:RP:=.one (.fr 62)
abbrev E:Env:={ T:=assoc mC,G:=cZ [(329,Z7.aM),(273,Z17.aM)],nt:=23,M:=ff [],np:=(nC eg),mt:=false,I:=gy [(139,Z4.ic (nC eg)),(237,Z6.ic (nC eg))] }
def step_eq (I:dD)(p:Pt):dU E live I (pid p) (bL Tryz.f272) (iT (live (pid p)) (cM p) (dQ p)) (dA E Tryz.f272 (.cur eg res.parts))=step (fun q=>I (pid q) (cM q) (dQ q)) p:=by
 cases p<;>kernel_rfl
def start_eq (I:dD)(ls:List L):gO E live I (bL Tryz.f272) (iG eg pats ls) (dA E Tryz.f272 (.cur eg res.parts))=start (fun q=>I (pid q) (cM q) (dQ q)) (eU ls) (cF 1 ls) (cF 2 ls):=by kernel_rfl
def run_eq (n:Nat)(ls:List L):eY E live Tryz.f272 (.cur eg res.parts) n (iG eg pats ls)=start (iter step n) (eU ls) (cF 1 ls) (cF 2 ls):=dI (id:=pid) (vs:=cM) (hs:=dQ) (step:=step) (start:=fun J=>start J (eU ls) (cF 1 ls) (cF 2 ls)) step_eq (fun I=>start_eq I ls) n
def gd (x0:aq)(x1 x2:Int):Prop:=CI x0 x1
def post (x0:aq)(x1 x2:Int)(y:Hl×Int×Int×aq):Prop:=CI x0 y.2.1/\∃m:List ah,y.2.2.2=m.map ah.row/\bg 8 (fun z:ah=>ah.Sm 64 z) m/\Z15.md m=true
def wp (x0:aq)(x1 x2:Int)(hg:gd x0 x1 x2):∃n,Wp (start (iter step n) x0 x1 x2) (post x0 x1 x2):=by
 have key:∀a d e,0<=a->a<=7->CI x0 d->∃n,Wp (iter step n (.p0 a d e x0 [])) (post x0 x1 x2):=by
  intro a d e h1 h2 h3
  refine ⟨9,kH (fun p=>match p with | .p0 a b c d e=>0<=a/\a<=7/\CI d b/\d=x0/\∃ms:List ah,e=ms.map ah.row/\(ms.length:Int)+a<=7/\(∀s∈ms,ah.Sm 64 s)/\Z15.md ms=true) (fun p=>match p with | .p0 a b c d e=>a.toNat) (fun J p hI hJ=>?_) _ _ ⟨h1,h2,h3,rfl,[],rfl,by show (0:Int)+a<=7;omega,fun _ h=>(nomatch h),rfl⟩ (by show a.toNat<9;omega)⟩
  obtain ⟨a,b,c,d,e⟩:=p
  obtain ⟨k1,k2,k3,rfl,ms,rfl,h6,h7,h8⟩:=hI
  refine wp_cond (fun c1=>?_) (fun c1=>?_)
  ·have c1:=of_decide_eq_true c1
   have e1:i64.wrap (a - 1)=a - 1:=wi _ (by omega)
   refine Z6.eJ k3 (fun v ⟨hv,hs⟩=>Z4.eJ hv (fun u ⟨hu,_,_⟩=>bX (Z7.aj trivial) (Z17.eJ ⟨⟨ms,rfl,⟨by omega,h7⟩,h8⟩,_,rfl,le_trans hs (by decide),zero_le _,fun _ h=>(nomatch h)⟩ (fun w ⟨m2,e2,⟨hl,hs2⟩,ha⟩=>hJ _ ⟨?_,?_,hu,rfl,m2,e2,?_,hs2,ha⟩ ?_))))
   ·show 0<=i64.wrap (a - 1);omega
   ·show i64.wrap (a - 1)<=7;omega
   ·rw [List.length_map] at hl;rw [e1];omega
   ·show (i64.wrap (a - 1)).toNat<a.toNat;omega
  ·exact wp_ret ⟨k3,ms,rfl,⟨show ms.length<=8 by omega,h7⟩,h8⟩
 obtain ⟨v,hv,pv⟩:=Z4.iN (x3:=4) hg
 obtain ⟨h1,h2⟩:=pv.2.2 (by decide)
 obtain ⟨n,hn⟩:=key v.2.2.2 v.2.1 v.2.2.1 h1 (by omega) pv.1
 exact ⟨n,bX hv hn⟩
def R:(aq×Int×Int)->Option (Hl×Int×Int×aq):=RQ (fun n x=>start (iter step n) x.1 x.2.1 x.2.2) (fun x=>post x.1 x.2.1 x.2.2)
def eJ {x0:aq}{x1 x2:Int}{γ:Type}[RT γ]{k:(Hl×Int×Int×aq)->aD}{Q:γ->Prop}(hg:gd x0 x1 x2)(hk:∀y,post x0 x1 x2 y->Wp (k y) Q):Wp (call (R (x0,x1,x2)) k) Q:=gq (wp x0 x1 x2 hg) hk
def acc (ls:List L):aq×Int×Int:=((eU ls),(cF 1 ls),(cF 2 ls))
def aM:jO:=CC eg pats res acc R
def af:gD Tryz.prog Ev 272 aM:=VC (live:=live) (mt:=false) mix az (fc Z7.af Z17.af) .nil (.cons (Z4.bR (nC eg)) (.cons (Z6.bR (nC eg)) .nil)) Tryz.func272 (by kernel_rfl) run_eq
def ic (_:Nat):gA:=kg Ev aM
def bR (n:Nat):dX Tryz.prog Ev n 272 (ic n):=eR af
end Z18
namespace Z19
def F (x0:cX):aD:=(cA (eK (((2:Int)+x0.bz.length)*8)) (ret (([[L.int x0.dw],[L.int x0.bz.length]]++x0.bz):aq)))
def md (a0:aL):List Int:=([a0.dw,a0.bz.length]++a0.bz)
def gd (a0:aL):Prop:=(aL.Sm (2^21) a0)
def R:=RR gd md
def aj {a0}(h:gd a0):R (aL.r a0)=some ((md a0).map aV):=cQ h
def aM:=CN [.agg qW] (oL 3) RT.dec R
def bn (a0)(H0:gd a0):F (aL.r a0)=ret ((md a0).map aV):=by
 unfold F md
 simp only [SS]
 exact aG (have:=(H0).1;lm) fz
def af:cj 353 aM:=W1 12 F mix az bn .nil Tryz.func353
def len (a0:aL):(md a0).length=2+a0.bz.length:=by simp [md];omega
end Z19
namespace Z20
def F (x0 x1:Int):aD:=(call (Z11.R (x1,1,1000000000000)) fun v1=>(cond (!v1) (ret (0:Int)) (cond (x1=0) none (cond (x1=0) none (ret ((Int.tmod (i64.wrap ((Int.tmod x0 x1)+x1)) x1)))))))
def md (a0 a1:Int):Int:=(cond (!(Z11.md a1 1 1000000000000)) (0:Int) ((Int.tmod (i64.wrap ((Int.tmod a0 a1)+a1)) a1)))
def gd (a0 a1:Int):Prop:=True
def R:=cI gd md
def aj {a0 a1}(h:gd a0 a1):R (a0,a1)=some (md a0 a1):=cH h
def aM:=CN [pI,pI] oI RT.dec R
def bn (a0)(a1)(hg:gd a0 a1):F a0 a1=ret (md a0 a1):=by
 refine ct (Z11.aj trivial) (bs (fun _=>rfl) (fun c1=>?_))
 have Dc1:=c1
 simp [Z11.md] at Dc1
 refine eH df (eH df ?_)
 exact fz
def af:cj 422 aM:=W2 15 F mix az bn (cO Z11.af) Tryz.func422
end Z20
namespace Z21
inductive Pt where
 | p0 (a:aq) (b c:Int)
def cM:Pt->List V
 | .p0 a b c=>[.sl none 3 a,.int .i64 b,.int .i64 c]
def step (J:Pt->aD):Pt->aD
 | .p0 a b c=>(cond (c<(a.length:Int)) (m2 c (a.length:Int) (call (Z20.R ((jz a (toNat c)),2147483647)) fun v1=>J (.p0 a (Int.tmod (i64.wrap ((i64.wrap ((i64.wrap (b*1000003))+v1))+13)) 2147483647) (i64.wrap (c+1))))) (ret (b:Int)))
def start (J:Pt->aD)(x0:aq):aD:=J (.p0 x0 11 0)
def live:Nat->Live:=gL [(3,jC [0,3,4])]
def md (a0:List Int):Int:=(dM (S:=Int) (β:=Int) (fun y1 s3=>(.inl (Int.tmod (i64.wrap ((i64.wrap ((i64.wrap (s3*1000003))+(Z20.md y1 2147483647)))+13)) 2147483647))) (fun s3=>s3) a0 11)
def gd (a0:List Int):Prop:=(bg (2^43) (fun y:Int=>True) a0)
def R:=RR gd md
def aj {a0}(h:gd a0):R (a0.map aV)=some (md a0):=cQ h
def aM:=CN [pL 3] oI RT.dec R
def bn (a0)(H0:gd a0):∃n,start (iter step n) (a0.map aV)=ret (md a0):=by
 have Bh2:=bl H0
 refine ex_eq (dZ (z:=0)) (dy fz ?_)
 refine bH (pt:=fun (i1:Nat) (s3:Int)=>Pt.p0 (a0.map aV) s3 (i1:Int)) (fun _ _=>True) (fun J i1 s3 h2 hih2=>?_) (fun s3 hih2=>?_) trivial
 ·simp only [step,SS]
  refine aP.yes dt (aP.yes bB ?_)
  refine aP.yes (bQ h2) (cr (Z20.aj trivial) ?_)
  refine aP.inl trivial ?_
  rw [aF h2 Bh2]
 ·simp only [step,SS]
  refine cL dn (⟨0,?_⟩)
  exact fz
def af:cj 367 aM:=L1 22 (fun _=>3) cM (fun _=>[]) live step start mix az bn (cO Z20.af) Tryz.func367
end Z21
namespace Z22
def F (x0:cX)(x1:Int):aD:=(call (Z19.R x0) fun v1=>(cA (eK (((2:Int)+v1.length)*8)) (call (Z21.R ([[L.int 239],[L.int x1]]++v1)) fun v2=>ret v2)))
def md (a0:aL)(a1:Int):Int:=((Z21.md ([239,a1]++(Z19.md a0))))
def gd (a0:aL)(a1:Int):Prop:=(aL.Sm (2^21) a0)
def R:=cI gd md
def aj {a0 a1}(h:gd a0 a1):R ((aL.r a0),a1)=some (md a0 a1):=cH h
def aM:=CN [.agg qW,pI] oI RT.dec R
def bn (a0)(a1)(H0:gd a0 a1):F (aL.r a0) a1=ret (md a0 a1):=by
 refine ct (Z19.aj H0) (aG (have:=Z19.len a0;have:=(H0).1;lm) ?_)
 exact cG _ (rq (Z21.aj (a0:=([239,a1]++(Z19.md a0))) ⟨(have:=Z19.len a0;have:=(H0).1;om),fun _ _=>trivial⟩)) fz
def af:cj 299 aM:=W2 11 F mix az bn (fc Z19.af Z21.af) Tryz.func299
end Z22
namespace Z23
inductive Pt where
 | p0 (a:aq) (b:Int) (c:aq)
def cM:Pt->List V
 | .p0 a b c=>[.sl none 5 a,.own 0,.int .i64 b]
def dQ:Pt->List aK
 | .p0 a b c=>[.row 3 c]
def step (J:Pt->aD):Pt->aD
 | .p0 a b c=>(cond (b<(a.length:Int)) (m2 b (a.length:Int) (cA (eK (((c.length:Int)+1)*8)) (J (.p0 a (i64.wrap (b+1)) (c++[[L.int (i64.wrap (jz a (toNat b)))]]))))) (ret (c:aq)))
def start (J:Pt->aD)(x0:aq):aD:=J (.p0 x0 0 [[L.int x0.length]])
def live:Nat->Live:=gL [(3,jC [0,3,4])]
def md (a0:List Int):List Int:=([(a0.length:Int)]++a0.map (fun y1=>(i64.wrap y1)))
def gd (a0:List Int):Prop:=(bg (2^38) (fun y:Int=>True) a0)
def R:=RR gd md
def aj {a0}(h:gd a0):R (a0.map aV)=some ((md a0).map aV):=cQ h
def aM:=CN [pL 5] (oL 3) RT.dec R
def bn (a0)(H0:gd a0):∃n,start (iter step n) (a0.map aV)=ret ((md a0).map aV):=by
 have Bh2:=bl H0
 refine ex_eq (out:=(fun b:List Int=>ret ((b.map aV):aq))) (nI (g:=fun (y1:Int)=>(i64.wrap y1)) (z:=0) (t:=fun (s3:List Int)=>s3)) (dy (p:=Pt.p0 (a0.map aV) 0 ([(a0.length:Int)].map aV)) fz ?_)
 refine bH (pt:=fun (i1:Nat) (s3:List Int)=>Pt.p0 (a0.map aV) (i1:Int) (s3.map aV)) (out:=(fun b:List Int=>ret ((b.map aV):aq))) (fun (i1:Nat) (s3:List Int)=>s3.length<=[(a0.length:Int)].length+1*i1) (fun J i1 s3 h2 hih2=>?_) (fun s3 hih2=>?_) (by simp)
 ·simp only [step,SS]
  have gr_:=hih2
  simp only [LN] at gr_
  have:=(H0).1
  refine aP.yes dt (aP.yes bB ?_)
  refine aP.yes (bQ h2) (aP.yes lm ?_)
  refine aP.inl (by
    (simp;omega)) ?_
  rw [aF h2 Bh2]
  exact fz
 ·simp only [step,SS]
  refine cL dn (⟨0,?_⟩)
  exact fz
def af:cj 463 aM:=L1 23 (fun _=>3) cM dQ live step start mix az bn .nil Tryz.func463
def len (a0:List Int):(md a0).length=1+a0.length:=by simp [md];omega
end Z23
namespace Z24
def F (x0:av):aD:=(cA ((x0.size:Int)<=140737488355328) (call (Z23.R (iY x0)) fun v1=>ret (v1:aq)))
def md (a0:av):List Int:=(Z23.md (lg a0))
def gd (a0:av):Prop:=(a0.size<=(2^21))
def R:=RR gd md
def aj {a0}(h:gd a0):R a0=some ((md a0).map aV):=cQ h
def aM:=CN [pS] (oL 3) RT.dec R
def bn (a0)(hg:gd a0):F a0=ret ((md a0).map aV):=by
 unfold gd at hg
 have H0:=hg
 refine aG (have:=H0;dt) (cG _ (rq (Z23.aj (a0:=(lg a0)) ⟨(have:=ir a0;have:=H0;om),fun _ _=>trivial⟩)) ?_)
 exact fz
def af:cj 431 aM:=W1 6 F mix az bn (cO Z23.af) Tryz.func431
def len (a0:av):(md a0).length=1+a0.size:=by simp [md,Z23.len,ir]
end Z24
namespace Z25
inductive Pt where
 | p0 (a:Int) (b:bk) (c:aq)
def cM:Pt->List V
 | .p0 a b c=>[.bP 0 0,.own 1,.int .i64 a]
def dQ:Pt->List aK
 | .p0 a b c=>[.box [.str b.aS,.int .i64 b.bt,.int .i64 b.bO,.sl none 9 b.bC],.row 3 c]
def step (J:Pt->aD):Pt->aD
 | .p0 a b c=>(cond (a<(b.bC.length:Int)) (m2 a (b.bC.length:Int) (call (Z24.R (tS b.bC (toNat a))) fun v1=>(cA (eK (((c.length:Int)+(v1.length:Int))*8)) (J (.p0 (i64.wrap (a+1)) b (c++v1)))))) (ret (c:aq)))
def start (J:Pt->aD)(x0:bk):aD:=(call (Z24.R x0.aS) fun v1=>(cA (eK ((v1.length+3)*8)) (J (.p0 0 x0 (v1++[[L.int x0.bt],[L.int x0.bO],[L.int x0.bC.length]])))))
def live:Nat->Live:=gL [(3,jC [1,3,4])]
def md (a0:ah):List Int:=(((Z24.md a0.aS)++[a0.bt,a0.bO,a0.bC.length])++a0.bC.flatMap (fun y1=>(Z24.md y1)))
def gd (a0:ah):Prop:=(ah.Sm (2^21) a0)
def R:=RR gd md
def aj {a0}(h:gd a0):R (ah.r a0)=some ((md a0).map aV):=cQ h
def aM:=CN [.agg vZ] (oL 3) RT.dec R
def bn (a0)(H0:gd a0):∃n,start (iter step n) (ah.r a0)=ret ((md a0).map aV):=by
 refine cx (Z24.aj H0.1) ?_
 simp only [SS]
 refine dP (have:=Z24.len a0.aS;have:=H0.1;lm) ?_
 have Bh2:=bl H0.2
 refine ex_eq (out:=(fun b:List Int=>ret ((b.map aV):aq))) (sB (g:=fun (y1:av)=>(Z24.md y1)) (z:=⟨#[]⟩) (t:=fun (s3:List Int)=>s3)) (dy (p:=Pt.p0 0 (ah.r a0) (((Z24.md a0.aS)++[a0.bt,a0.bO,(a0.bC.length:Int)]).map aV)) fz ?_)
 refine bH (pt:=fun (i1:Nat) (s3:List Int)=>Pt.p0 (i1:Int) (ah.r a0) (s3.map aV)) (out:=(fun b:List Int=>ret ((b.map aV):aq))) (fun (i1:Nat) (s3:List Int)=>s3.length<=4+a0.aS.size+i1*(2^21+1)) (fun J i1 s3 h2 hih2=>?_) (fun s3 hih2=>?_) (by
   have:=Z24.len a0.aS
   simp
   try omega)
 ·simp only [step,SS]
  have:=H0.1
  have:=(H0.2).1
  refine aP.yes dt (aP.yes bB ?_)
  refine aP.yes (bQ h2) (cr (Z24.aj (bg.getD H0.2 h2)) ?_)
  refine aP.yes (have:=Z24.len (a0.bC.getD i1 ⟨#[]⟩);have:=(bg.getD (z:=⟨#[]⟩) H0.2 h2);lm) ?_
  refine aP.inl (by
    have:=Z24.len (a0.bC.getD i1 ⟨#[]⟩)
    have:=(bg.getD (z:=⟨#[]⟩) H0.2 h2)
    have g_:=hih2
    simp only [LN] at g_ ⊢
    first | omega | (simp;done) | (simp;omega)) ?_
  rw [aF h2 Bh2]
  exact fz
 ·simp only [step,SS]
  refine cL dn (⟨0,?_⟩)
  exact fz
def af:cj 382 aM:=L1 33 (fun _=>3) cM dQ live step start mix az bn (cO Z24.af) Tryz.func382
def fo {a0:ah}(hg:gd a0):bg (2^43 - 1) (fun y:Int=>True) (md a0):=by
 refine ⟨?_,fun _ _=>trivial⟩
 unfold md
 have h1:=mD (xs:=a0.bC) (g:=fun y=>Z24.md y) (n:=2^21+1) (fun x hx=>by rw [Z24.len];have:=hg.2.2 x hx;omega)
 have h2:=hg.1
 have h3:=hg.2.1
 have h4:=Z24.len a0.aS
 simp only [List.length_append,List.length_cons,List.length_nil]
 omega
end Z25
namespace Z26
def F (x0:bk):aD:=(call (Z25.R x0) fun v1=>(cA (eK (((1:Int)+v1.length)*8)) (call (Z21.R ([[L.int 227]]++v1)) fun v2=>ret v2)))
def md (a0:ah):Int:=((Z21.md ([227]++(Z25.md a0))))
def gd (a0:ah):Prop:=(ah.Sm (2^21) a0)
def R:=RR gd md
def aj {a0}(h:gd a0):R (ah.r a0)=some (md a0):=cQ h
def aM:=CN [.agg vZ] oI RT.dec R
def bn (a0)(H0:gd a0):F (ah.r a0)=ret (md a0):=by
 refine ct (Z25.aj H0) (aG (have:=((Z25.fo H0)).1;lm) ?_)
 exact cG _ (rq (Z21.aj (a0:=([227]++(Z25.md a0))) ⟨(have:=((Z25.fo H0)).1;om),fun _ _=>trivial⟩)) fz
def af:cj 315 aM:=W1 8 F mix az bn (fc Z25.af Z21.af) Tryz.func315
end Z26
namespace Z27
inductive Pt where
 | p0 (a:aq) (b:Int) (c:aq)
def cM:Pt->List V
 | .p0 a b c=>[.sl none 62 a,.own 0,.int .i64 b]
def dQ:Pt->List aK
 | .p0 a b c=>[.row 3 c]
def step (J:Pt->aD):Pt->aD
 | .p0 a b c=>(cond (b<(a.length:Int)) (m2 b (a.length:Int) (call (Z26.R (bk.at a (toNat b))) fun v1=>(cA (eK (((c.length:Int)+1)*8)) (J (.p0 a (i64.wrap (b+1)) (c++[[L.int v1]])))))) (ret (c:aq)))
def start (J:Pt->aD)(x0:aq):aD:=J (.p0 x0 0 [])
def live:Nat->Live:=gL [(3,[(0,none),(3,some 3),(4,none)])]
def md (a0:List ah):List Int:=(a0.map (fun y1=>(Z26.md y1)))
def gd (a0:List ah):Prop:=(bg (2^21) (fun y:ah=>ah.Sm (2^21) y) a0)
def R:=RR gd md
def aj {a0}(h:gd a0):R (a0.map ah.row)=some ((md a0).map aV):=cQ h
def aM:=CN [pL 62] (oL 3) RT.dec R
def bn (a0)(H0:gd a0):∃n,start (iter step n) (a0.map ah.row)=ret ((md a0).map aV):=by
 have Bh2:=bl H0
 refine ex_eq (out:=(fun b:List Int=>ret ((b.map aV):aq))) (ox (g:=fun (y1:ah)=>(Z26.md y1)) (z:=ah.zero) (t:=fun (s3:List Int)=>s3)) (dy fz ?_)
 refine bH (pt:=fun (i1:Nat) (s3:List Int)=>Pt.p0 (a0.map ah.row) (i1:Int) (s3.map aV)) (s:=([]:List Int)) (out:=(fun b:List Int=>ret ((b.map aV):aq))) (fun (i1:Nat) (s3:List Int)=>s3.length<=([]:List Int).length+1*i1) (fun J i1 s3 h2 hih2=>?_) (fun s3 hih2=>?_) (by simp)
 ·simp only [step,SS]
  have gr_:=hih2
  simp only [LN] at gr_
  have:=(H0).1
  refine aP.yes dt (aP.yes bB ?_)
  refine aP.yes (bQ h2) (cr (Z26.aj (bg.getD H0 h2)) ?_)
  refine aP.yes lm ?_
  refine aP.inl (by
    (simp;omega)) ?_
  rw [aF h2 Bh2]
  exact fz
 ·simp only [step,SS]
  refine cL dn (⟨0,?_⟩)
  exact fz
def af:cj 306 aM:=L1 21 (fun _=>3) cM dQ live step start mix az bn (cO Z26.af) Tryz.func306
def len (a0:List ah):(md a0).length=a0.length:=by simp [md]
end Z27
namespace Z28
def F (x0 x1:Int):aD:=(call (Z21.R [[L.int 229],[L.int x0],[L.int x1]]) fun v1=>ret v1)
def md (a0 a1:Int):Int:=((Z21.md [229,a0,a1]))
def gd (a0 a1:Int):Prop:=True
def R:=cI gd md
def aj {a0 a1}(h:gd a0 a1):R (a0,a1)=some (md a0 a1):=cH h
def aM:=CN [pI,pI] oI RT.dec R
def bn (a0)(a1)(hg:gd a0 a1):F a0 a1=ret (md a0 a1):=cG _ (rq (Z21.aj (a0:=[229,a0,a1]) ⟨(om),fun _ _=>trivial⟩)) fz
def af:cj 381 aM:=W2 9 F mix az bn (cO Z21.af) Tryz.func381
end Z28
namespace Z29
inductive Pt where
 | p0 (a:aq) (b:Int) (c:aq)
def cM:Pt->List V
 | .p0 a b c=>[.sl none 3 a,.own 0,.int .i64 b]
def dQ:Pt->List aK
 | .p0 a b c=>[.row 3 c]
def step (J:Pt->aD):Pt->aD
 | .p0 a b c=>(cond (b<(a.length:Int)) (cond ((i64.wrap (b+1))<(a.length:Int)) (m2 b (a.length:Int) (cA ((0:Int)<=(i64.wrap (b+1))) (cA ((i64.wrap (b+1))<(a.length:Int)) (call (Z28.R ((jz a (toNat b)),(jz a (toNat (i64.wrap (b+1)))))) fun v1=>(cA (eK (((c.length:Int)+1)*8)) (J (.p0 a (i64.wrap (b+2)) (c++[[L.int v1]])))))))) (m2 b (a.length:Int) (cA (eK (((c.length:Int)+1)*8)) (J (.p0 a (i64.wrap (b+2)) (c++[[L.int (jz a (toNat b))]])))))) (ret (c:aq)))
def start (J:Pt->aD)(x0:aq):aD:=J (.p0 x0 0 [])
def live:Nat->Live:=gL [(3,[(0,none),(3,some 3),(4,none)])]
def up:List Int->List Int
 | []=>[]
 | [a]=>[a]
 | a::b::r=>Z28.md a b::up r
def lA:∀l:List Int,(up l).length=(l.length+1) / 2
 | []=>by simp [up]
 | [_]=>by simp [up]
 | _::_::r=>by
  have:=lA r
  simp only [up,List.length_cons]
  omega
def md (a0:List Int):List Int:=up a0
def gd (a0:List Int):Prop:=bg (2^38) (fun y:Int=>True) a0
def R:=RR gd md
def aj {a0}(h:gd a0):R (a0.map aV)=some ((md a0).map aV):=cQ h
def aM:=CN [pL 3] (oL 3) RT.dec R
def bn (a0)(hg:gd a0):∃n,start (iter step n) (a0.map aV)=ret ((md a0).map aV):=by
 obtain ⟨H1,_⟩:=hg
 have key:∀(k i:Nat) (c:List Int),i+k=a0.length->c.length<=i->∃n,iter step n (Pt.p0 (a0.map aV) (i:Int) (c.map aV))=ret ((c++up (a0.drop i)).map aV:aq):=by
  intro k
  induction k using Nat.strongRecOn with
  | _ k ih=>
  intro i c hi hc
  match k,hi,ih with
  | 0,hi,_=>
   refine ⟨1,?_⟩
   show step (iter step 0) (Pt.p0 _ _ _)=_
   simp only [step,List.length_map]
   refine eH (decide_eq_false (by omega)) ?_
   rw [List.drop_eq_nil_of_le (by omega)]
   simp only [up,List.append_nil]
  | 1,hi,ih=>
   obtain ⟨n,hn⟩:=ih 0 (by omega) (i+1) (c++[a0.getD i 0]) (by omega) (by simp;omega)
   have h2:∃n,iter step n (Pt.p0 (a0.map aV) (i64.wrap ((i:Int)+2)) ((c++[a0.getD i 0]).map aV))=ret ((c++[a0.getD i 0]).map aV:aq):=by
    refine ⟨1,?_⟩
    show step (iter step 0) (Pt.p0 _ _ _)=_
    simp only [step,List.length_map]
    refine eH (decide_eq_false ?_) rfl
    rw [Go.IntWalk.i64_in _ (by omega)];omega
   obtain ⟨n,hn⟩:=h2
   refine ⟨n+1,?_⟩
   show step (iter step n) (Pt.p0 _ _ _)=_
   simp only [step,List.length_map,gv,iu]
   refine aG (decide_eq_true (by omega)) (eH (decide_eq_false ?_) (aG (decide_eq_true (by omega)) (aG (decide_eq_true (by omega)) (aG (gC (by omega)) ?_))))
   ·rw [Go.IntWalk.i64_in _ (by omega)];omega
   ·rw [List.map_append] at hn
    refine Eq.trans hn ?_
    rw [List.drop_eq_getElem_cons (by omega),List.drop_eq_nil_of_le (by omega),fH (by omega:i<a0.length)]
    simp only [up,List.map_append]
  | k+2,hi,ih=>
   obtain ⟨n,hn⟩:=ih k (by omega) (i+2) (c++[Z28.md (a0.getD i 0) (a0.getD (i+1) 0)]) (by omega) (by simp;omega)
   refine ⟨n+1,?_⟩
   show step (iter step n) (Pt.p0 _ _ _)=_
   have w1:i64.wrap ((i:Int)+1)=((i+1:Nat):Int):=by rw [Go.IntWalk.i64_in _ (by omega)];omega
   have w2:i64.wrap ((i:Int)+2)=((i+2:Nat):Int):=by rw [Go.IntWalk.i64_in _ (by omega)];omega
   simp only [step,List.length_map,w1,w2,gv,iu]
   refine aG (decide_eq_true (by omega)) (aG (decide_eq_true (by omega)) (aG (decide_eq_true (by omega)) (aG (decide_eq_true (by omega)) (aG (decide_eq_true (by omega)) (aG (decide_eq_true (by omega)) ?_)))))
   refine cG _ (Z28.aj trivial) (aG (gC (by omega)) ?_)
   rw [List.map_append] at hn
   refine Eq.trans hn ?_
   rw [List.drop_eq_getElem_cons (by omega:i<a0.length),List.drop_eq_getElem_cons (by omega:i+1<a0.length),fH (by omega:i<a0.length),fH (by omega:i+1<a0.length)]
   simp only [up,List.append_assoc,List.cons_append,List.nil_append]
 have:=key a0.length 0 [] (by omega) (by simp)
 unfold start md
 simpa using this
def af:cj 374 aM:=L1 38 (fun _=>3) cM dQ live step start mix az bn (cO Z28.af) Tryz.func374
end Z29
namespace Z30
inductive Pt where
 | p0 (a:aq)
 | p1 (a:aq)
def cM:Pt->List V
 | .p0 a=>[.sl none 3 a]
 | .p1 a=>[.own 0]
def dQ:Pt->List aK
 | .p0 a=>[]
 | .p1 a=>[.row 3 a]
def step (J:Pt->aD):Pt->aD
 | .p0 a=>(cond ((a.length:Int)>1) (call (Z29.R a) fun v1=>J (.p1 v1)) (cA ((0:Int)<(a.length:Int)) (ret ((jz a 0):Int))))
 | .p1 a=>(cond ((a.length:Int)>1) (call (Z29.R a) fun v1=>J (.p1 v1)) (cA ((0:Int)<(a.length:Int)) (ret ((jz a 0):Int))))
def start (J:Pt->aD)(x0:aq):aD:=(cond ((x0.length:Int)==0) (call (Z21.R [[L.int 229]]) fun v1=>ret v1) (J (.p0 x0)))
def live:Nat->Live:=gL [(4,[(3,none)])]
def top:Nat->List Int->Int
 | 0,l=>l.getD 0 0
 | k+1,l=>if l.length>1 then top k (Z29.up l) else l.getD 0 0
def md (a0:List Int):Int:=(if a0.length=0 then Z21.md [229] else top a0.length a0)
def gd (a0:List Int):Prop:=bg (2^38) (fun y:Int=>True) a0
def R:=RR gd md
def aj {a0}(h:gd a0):R (a0.map aV)=some (md a0):=cQ h
def aM:=CN [pL 3] oI RT.dec R
def bn (a0)(hg:gd a0):∃n,start (iter step n) (a0.map aV)=ret (md a0):=by
 have one:∀(l:List Int) (r:Int) (n:Nat),bg (2^38) (fun y:Int=>True) l->0<l.length->(if l.length>1 then iter step n (Pt.p1 ((Z29.up l).map aV))=ret r else ret (l.getD 0 0:Int)=ret r)->step (iter step n) (Pt.p0 (l.map aV))=ret r/\step (iter step n) (Pt.p1 (l.map aV))=ret r:=by
  intro l r n hl hp h
  simp only [step,List.length_map,iu]
  by_cases h1:l.length>1
  ·rw [if_pos h1] at h
   have hx:∀y:aD,(cond ((l.length:Int)>1) (call (Z29.R (l.map aV)) (fun v1=>iter step n (Pt.p1 v1))) y)=ret r:=fun y=>
    aG (decide_eq_true (by omega)) (cG _ (Z29.aj hl) h)
   exact ⟨hx _,hx _⟩
  ·rw [if_neg h1] at h
   have hx:∀y:aD,(cond ((l.length:Int)>1) y (cond ((0:Int)<(l.length:Int)) (ret (l.getD 0 0:Int)) none))=ret r:=fun y=>
    eH (decide_eq_false (by omega)) (aG (decide_eq_true (by omega)) h)
   exact ⟨hx _,hx _⟩
 have key:∀(k:Nat) (l:List Int),bg (2^38) (fun y:Int=>True) l->0<l.length->l.length<=k+1->∃n,step (iter step n) (Pt.p0 (l.map aV))=ret (top k l)/\step (iter step n) (Pt.p1 (l.map aV))=ret (top k l):=by
  intro k
  induction k with
  | zero=>
   intro l hl hp hk
   exact ⟨0,one l _ 0 hl hp (by rw [if_neg (by omega)];rfl)⟩
  | succ k ih=>
   intro l hl hp hk
   by_cases h1:l.length>1
   ·have hu:=Z29.lA l
    have hl1:=hl.1
    obtain ⟨n,_,hn⟩:=ih (Z29.up l) ⟨by omega,fun _ _=>trivial⟩ (by omega) (by omega)
    refine ⟨n+1,one l _ (n+1) hl hp ?_⟩
    rw [if_pos h1]
    refine Eq.trans hn ?_
    unfold top
    rw [if_pos h1]
    cases k<;>rfl
   ·refine ⟨0,one l _ 0 hl hp ?_⟩
    rw [if_neg h1]
    unfold top
    rw [if_neg h1]
 unfold md
 unfold start
 simp only [List.length_map]
 by_cases h0:a0.length=0
 ·have e:((a0.length:Int)==0)=true:=by simpa using List.length_eq_zero_iff.1 h0
  refine ⟨0,?_⟩
  rw [e]
  refine cG _ (Z21.aj (a0:=[229]) ⟨by decide,fun _ _=>trivial⟩) ?_
  rw [if_pos h0]
 ·have e:((a0.length:Int)==0)=false:=beq_eq_false_iff_ne.2 (by omega)
  obtain ⟨n,hn,_⟩:=key a0.length a0 hg (by omega) (by omega)
  refine ⟨n+1,?_⟩
  rw [e,if_neg h0]
  exact hn
def af:cj 384 aM:=L1 18 (fun _=>4) cM dQ live step start mix az bn (fc Z21.af Z29.af) Tryz.func384
end Z30
namespace Z31
def F (x0 x1:Int):aD:=(call (Z21.R [[L.int 231],[L.int x0],[L.int x1]]) fun v1=>ret v1)
def md (a0 a1:Int):Int:=((Z21.md [231,a0,a1]))
def gd (a0 a1:Int):Prop:=True
def R:=cI gd md
def aj {a0 a1}(h:gd a0 a1):R (a0,a1)=some (md a0 a1):=cH h
def aM:=CN [pI,pI] oI RT.dec R
def bn (a0)(a1)(hg:gd a0 a1):F a0 a1=ret (md a0 a1):=cG _ (rq (Z21.aj (a0:=[231,a0,a1]) ⟨(om),fun _ _=>trivial⟩)) fz
def af:cj 317 aM:=W2 9 F mix az bn (cO Z21.af) Tryz.func317
end Z31
namespace Z32
def F (x0:aq):aD:=(call (Z27.R x0) fun v1=>(call (Z30.R v1) fun v2=>(call (Z31.R (x0.length,v2)) fun v3=>ret v3)))
def md (a0:List ah):Int:=((Z31.md a0.length (Z30.md (Z27.md a0))))
def gd (a0:List ah):Prop:=(bg (2^21) (fun y:ah=>ah.Sm (2^21) y) a0)
def R:=RR gd md
def aj {a0}(h:gd a0):R (a0.map ah.row)=some (md a0):=cQ h
def aM:=CN [pL 62] oI RT.dec R
def bn (a0)(H0:gd a0):F (a0.map ah.row)=ret (md a0):=by
 refine ct (Z27.aj H0) ?_
 simp only [SS]
 refine ct (Z30.aj ⟨(have:=Z27.len a0;have:=(H0).1;om),fun _ _=>trivial⟩) (ct (Z31.aj trivial) ?_)
 exact fz
def af:cj 320 aM:=W1 9 F mix az bn (jB Z27.af Z30.af Z31.af) Tryz.func320
end Z32
namespace Z33
def F (x0:cX):aD:=(cA (eK (x0.bz.length*8)) (ret x0))
def md (a0:aL):aL:=a0
def gd (a0:aL):Prop:=(aL.Sm (2^21) a0)
def R:=RR gd md
def aj {a0}(h:gd a0):R (aL.r a0)=some (aL.r a0):=cQ h
def aM:=CN [.agg qW] (.agg f48) RT.dec R
def bn (a0)(H0:gd a0):F (aL.r a0)=ret (aL.r (md a0)):=by
 unfold F md
 simp only [SS]
 exact aG (have:=(H0).1;lm) fz
def af:cj 251 aM:=W1 10 F mix az bn .nil Tryz.func251
end Z33
namespace Z34
inductive Pt where
 | p0 (a:Int) (b:cX)
def cM:Pt->List V
 | .p0 a b=>[.bP 0 0,.int .i64 a]
def dQ:Pt->List aK
 | .p0 a b=>[.box [.sl none 3 b.bz,.int .i64 b.dw]]
def step (J:Pt->aD):Pt->aD
 | .p0 a b=>(cond (a<(b.bz.length:Int)) (m2 a (b.bz.length:Int) (call (Z11.R ((jz b.bz (toNat a)),1,99)) fun v1=>(cond (!v1) eM (cond (a>0) (cA ((0:Int)<=(i64.wrap (a - 1))) (cA ((i64.wrap (a - 1))<(b.bz.length:Int)) (m2 a (b.bz.length:Int) (cond ((jz b.bz (toNat (i64.wrap (a - 1))))>=(jz b.bz (toNat a))) eM (J (.p0 (i64.wrap (a+1)) b)))))) (J (.p0 (i64.wrap (a+1)) b)))))) (call (Z11.R ((b.bz.length:Int),1,4)) fun v2=>(cond v2 (call (Z11.R (b.dw,1,(b.bz.length:Int))) fun v3=>ret (v3:Bool)) eM)))
def start (J:Pt->aD)(x0:cX):aD:=J (.p0 0 x0)
def live:Nat->Live:=gL [(2,jC [1,3])]
def md (a0:aL):Bool:=(dY (S:=Unit) (β:=Bool) (fun i1 y1 s3=>(cond (!(Z11.md y1 1 99)) (.inr false) (cond ((i1:Int)>0) (cond ((a0.bz.getD (toNat (i64.wrap (i1 - 1))) 0)>=y1) (.inr false) (.inl ())) (.inl ())))) (fun s3=>(cond (Z11.md a0.bz.length 1 4) ((Z11.md a0.dw 1 a0.bz.length)) false)) 0 a0.bz ())
def gd (a0:aL):Prop:=(aL.Sm (2^21) a0)
def R:=RR gd md
def aj {a0}(h:gd a0):R (aL.r a0)=some (md a0):=cQ h
def aM:=CN [.agg qW] oB RT.dec R
def bn (a0)(H0:gd a0):∃n,start (iter step n) (aL.r a0)=ret (md a0):=by
 have Bh2:=bl H0
 refine ex_eq (cK (z:=0)) (dy fz ?_)
 refine bH (pt:=fun (i1:Nat) (s3:Unit)=>Pt.p0 (i1:Int) (aL.r a0)) (fun _ _=>True) (fun J i1 s3 h2 hih2=>?_) (fun s3 hih2=>?_) trivial
 ·simp only [step,SS]
  have:=(H0).1
  refine aP.yes dt (aP.yes bB ?_)
  refine aP.yes (bQ h2) (cr (Z11.aj trivial) ?_)
  refine aP.bif (fun _=>aP.inr rfl) (fun c4=>?_)
  refine aP.bif (fun c5=>?_) (fun c5=>?_)
  ·have dc5:=c5
   simp only [DC] at dc5
   refine aP.yes dt (aP.yes dt ?_)
   refine aP.yes bB (aP.yes (bQ h2) ?_)
   refine aP.bif (fun _=>aP.inr rfl) (fun c6=>?_)
   refine aP.inl trivial ?_
   rw [aF h2 Bh2]
  ·refine aP.inl trivial ?_
   rw [aF h2 Bh2]
 ·simp only [step,SS]
  refine cL dn (cx (Z11.aj trivial) ?_)
  refine gE ret (fun c7=>?_) (fun _=>⟨0,rfl⟩)
  refine cx (Z11.aj trivial) (⟨0,?_⟩)
  exact fz
def af:cj 365 aM:=L1 48 (fun _=>2) cM dQ live step start mix az bn (cO Z11.af) Tryz.func365
def tr {a0:aL}(h:md a0=true):1<=a0.bz.length/\a0.bz.length<=4:=by
 refine Classical.byContradiction fun hc=>?_
 have e1:Z11.md (a0.bz.length:Int) 1 4=false:=by simp [Z11.md];omega
 unfold md at h
 rw [e1] at h
 have h3:=kL (c:=false) (f:=fun (i1:Nat) (y1:Int) (s3:Unit)=>(cond (!(Z11.md y1 1 99)) (.inr (false:Bool)) (cond ((i1:Int)>0) (cond ((a0.bz.getD (toNat (i64.wrap ((i1:Int) - 1))) 0)>=y1) (.inr (false:Bool)) (.inl ())) (.inl ())))) (by
  intro i x s b h
  revert h
  simp only [Bool.cond_eq_ite]
  repeat' split
  all_goals (intro h;first | (cases h;rfl) | cases h)) a0.bz 0 ()
 simp only [aR] at h
 rw [h3] at h
 cases h
end Z34
namespace Z35
def F (x0:cX):aD:=(cond (x0.dw==0) (ret (((x0.bz.length:Int)==0))) (ret false))
def md (a0:aL):Bool:=(cond (a0.dw==0) (((a0.bz.length:Int)==0)) false)
def gd (a0:aL):Prop:=True
def R:=RR gd md
def aj {a0}(h:gd a0):R (aL.r a0)=some (md a0):=cQ h
def aM:=CN [.agg qW] oB RT.dec R
def bn (a0)(hg:gd a0):F (aL.r a0)=ret (md a0):=by
 refine bs (fun c1=>?_) (fun _=>rfl)
 exact fz
def af:cj 366 aM:=W1 12 F mix az bn .nil Tryz.func366
end Z35
namespace Z36
def F (x0:bN):aD:=(call (Z11.R (x0.aX,0,2147483646)) fun v1=>(cond (!v1) (ret false) (call (Z11.R (x0.dx,0,2147483646)) fun v2=>(cond (!v2) (ret false) (call (Z11.R (x0.ec,0,2147483646)) fun v3=>(cond (!v3) (ret false) (call (Z11.R (x0.cw,0,200)) fun v4=>(cond (!v4) (ret false) (call (Z11.R (x0.bt,1,3)) fun v5=>(cond (!v5) (ret false) (call (Z11.R (x0.cg,0,100000)) fun v6=>(cond (!v6) (ret false) (call (Z11.R (x0.cm,x0.cg,100000)) fun v7=>(cond (!v7) (ret false) (cond ((i64.wrap (x0.cm - x0.cg))>200) (ret false) (call (Z11.R (x0.bZ,0,12)) fun v8=>(cond (!v8) (ret false) (call (Z34.R x0.bV) fun v9=>(cond (!v9) (ret false) (call (Z35.R x0.bG) fun v10=>(cond v10 (cond (x0.cW != 0) (ret false) (call (Z34.R x0.bD) fun v11=>(cond v11 (ret true) (call (Z35.R x0.bD) fun v12=>(cond v12 (ret ((!x0.bh))) (ret false)))))) (call (Z34.R x0.bG) fun v13=>(cond (!v13) (ret false) (call (Z11.R (x0.cW,1,500)) fun v14=>(cond (!v14) (ret false) (call (Z34.R x0.bD) fun v15=>(cond v15 (ret true) (call (Z35.R x0.bD) fun v16=>(cond v16 (ret ((!x0.bh))) (ret false))))))))))))))))))))))))))))))
def md (a0:au):Bool:=(cond (!(Z11.md a0.aX 0 2147483646)) false (cond (!(Z11.md a0.dx 0 2147483646)) false (cond (!(Z11.md a0.ec 0 2147483646)) false (cond (!(Z11.md a0.cw 0 200)) false (cond (!(Z11.md a0.bt 1 3)) false (cond (!(Z11.md a0.cg 0 100000)) false (cond (!(Z11.md a0.cm a0.cg 100000)) false (cond ((i64.wrap (a0.cm - a0.cg))>200) false (cond (!(Z11.md a0.bZ 0 12)) false (cond (!(Z34.md a0.bV)) false (cond (Z35.md a0.bG) (cond (a0.cW != 0) false (cond (Z34.md a0.bD) true (cond (Z35.md a0.bD) ((!a0.bh)) false))) (cond (!(Z34.md a0.bG)) false (cond (!(Z11.md a0.cW 1 500)) false (cond (Z34.md a0.bD) true (cond (Z35.md a0.bD) ((!a0.bh)) false)))))))))))))))
def gd (a0:au):Prop:=(au.Sm (2^21) a0)
def R:=RR gd md
def aj {a0}(h:gd a0):R (au.r a0)=some (md a0):=cQ h
def aM:=CN [.agg lu] oB RT.dec R
def bn (a0)(H0:gd a0):F (au.r a0)=ret (md a0):=by
 refine ct (Z11.aj trivial) (bs (fun _=>rfl) (fun c1=>?_))
 refine ct (Z11.aj trivial) (bs (fun _=>rfl) (fun c2=>?_))
 refine ct (Z11.aj trivial) (bs (fun _=>rfl) (fun c3=>?_))
 refine ct (Z11.aj trivial) (bs (fun _=>rfl) (fun c4=>?_))
 refine ct (Z11.aj trivial) (bs (fun _=>rfl) (fun c5=>?_))
 refine ct (Z11.aj trivial) (bs (fun _=>rfl) (fun c6=>?_))
 refine ct (Z11.aj trivial) (bs (fun _=>rfl) (fun c7=>?_))
 refine bs (fun _=>rfl) (fun c8=>?_)
 refine ct (Z11.aj trivial) (bs (fun _=>rfl) (fun c9=>?_))
 refine ct (Z34.aj H0.1) (bs (fun _=>rfl) (fun c10=>?_))
 refine ct (Z35.aj trivial) (bs (fun c11=>?_) (fun c11=>?_))
 ·refine bs (fun _=>rfl) (fun c12=>?_)
  refine ct (Z34.aj H0.2.2) (bs (fun _=>rfl) (fun c13=>?_))
  refine ct (Z35.aj trivial) (bs (fun c14=>?_) (fun _=>rfl))
  exact fz
 ·refine ct (Z34.aj H0.2.1) (bs (fun _=>rfl) (fun c15=>?_))
  refine ct (Z11.aj trivial) (bs (fun _=>rfl) (fun c16=>?_))
  refine ct (Z34.aj H0.2.2) (bs (fun _=>rfl) (fun c17=>?_))
  refine ct (Z35.aj trivial) (bs (fun c18=>?_) (fun _=>rfl))
  exact fz
def af:cj 298 aM:=W1 92 F mix az bn (jB Z11.af Z34.af Z35.af) Tryz.func298
def tr {a0:au}(h:md a0=true):(1<=a0.bt/\a0.bt<=3)/\0<=a0.cg/\a0.cg<=a0.cm/\a0.cm<=100000/\0<=a0.bZ/\a0.bZ<=12:=by
 have key:∀x y z:Int,Z11.md x y z=true->y<=x/\x<=z:=fun x y z h=>by simpa [Z11.md] using h
 unfold md at h
 simp only [DQ,Bool.not_not,Bool.and_eq_true] at h
 obtain ⟨_,_,_,_,h5,h6,h7,_,h8,_⟩:=h
 have:=key _ _ _ h5
 have:=key _ _ _ h6
 have:=key _ _ _ h7
 have:=key _ _ _ h8
 omega
end Z36
namespace Z37
def F (x0:cX)(x1:Int)(x2:aq)(x3 x4:Int):aD:=(call (Z15.R x2) fun v1=>(cond (!v1) (ret (((⟨0,0,0,0,0,0,0,0,(⟨[],0⟩),(⟨[],0⟩),0,(⟨[],0⟩),false⟩),false):bN×Bool)) (call (Z11.R (x3,0,100000)) fun v2=>(cond (!v2) (ret (((⟨0,0,0,0,0,0,0,0,(⟨[],0⟩),(⟨[],0⟩),0,(⟨[],0⟩),false⟩),false):bN×Bool)) (call (Z11.R (x4,0,200)) fun v3=>(cond (!v3) (ret (((⟨0,0,0,0,0,0,0,0,(⟨[],0⟩),(⟨[],0⟩),0,(⟨[],0⟩),false⟩),false):bN×Bool)) (call (Z22.R (x0,x1)) fun v4=>(call (Z32.R x2) fun v5=>(call (Z33.R x0) fun v6=>(call (Z36.R (⟨v4,0,1,x3,(i64.wrap (x3+x4)),x2.length,v5,x1,v6,(⟨[],0⟩),0,(⟨[],0⟩),false⟩)) fun v7=>(cond (!v7) (ret (((⟨0,0,0,0,0,0,0,0,(⟨[],0⟩),(⟨[],0⟩),0,(⟨[],0⟩),false⟩),false):bN×Bool)) (ret (((⟨v4,0,1,x3,(i64.wrap (x3+x4)),x2.length,v5,x1,v6,(⟨[],0⟩),0,(⟨[],0⟩),false⟩),true):bN×Bool)))))))))))))
def md (a0:aL)(a1:Int)(a2:List ah)(a3 a4:Int):au×Bool:=(cond (!(Z15.md a2)) ((⟨0,0,0,0,0,0,0,0,(⟨[],0⟩),(⟨[],0⟩),0,(⟨[],0⟩),false⟩),false) (cond (!(Z11.md a3 0 100000)) ((⟨0,0,0,0,0,0,0,0,(⟨[],0⟩),(⟨[],0⟩),0,(⟨[],0⟩),false⟩),false) (cond (!(Z11.md a4 0 200)) ((⟨0,0,0,0,0,0,0,0,(⟨[],0⟩),(⟨[],0⟩),0,(⟨[],0⟩),false⟩),false) (cond (!(Z36.md (⟨(Z22.md a0 a1),0,1,a3,(i64.wrap (a3+a4)),a2.length,(Z32.md a2),a1,a0,(⟨[],0⟩),0,(⟨[],0⟩),false⟩))) ((⟨0,0,0,0,0,0,0,0,(⟨[],0⟩),(⟨[],0⟩),0,(⟨[],0⟩),false⟩),false) ((⟨(Z22.md a0 a1),0,1,a3,(i64.wrap (a3+a4)),a2.length,(Z32.md a2),a1,a0,(⟨[],0⟩),0,(⟨[],0⟩),false⟩),true)))))
def gd (a0:aL)(a1:Int)(a2:List ah)(a3 a4:Int):Prop:=(aL.Sm (2^21) a0)/\(bg (2^21) (fun y:ah=>ah.Sm (2^21) y) a2)
def R:=sL gd md
def aj {a0 a1 a2 a3 a4}(h:gd a0 a1 a2 a3 a4):R ((aL.r a0),a1,(a2.map ah.row),a3,a4)=some ((au.r (md a0 a1 a2 a3 a4).1),(md a0 a1 a2 a3 a4).2):=sR h
def aM:=CN [.agg qW,pI,pL 62,pI,pI] (.gW [(true,f50),(false,[fB])]) RT.dec R
def bn (a0)(a1)(a2)(a3)(a4)(hg:gd a0 a1 a2 a3 a4):F (aL.r a0) a1 (a2.map ah.row) a3 a4=ret ((au.r (md a0 a1 a2 a3 a4).1),(md a0 a1 a2 a3 a4).2):=by
 obtain ⟨H0,H2⟩:=hg
 refine ct (Z15.aj H2) (bM (fun b:au×Bool=>ret (((au.r b.1),b.2):bN×Bool)) (fun c1=>fz) (fun c1=>?_))
 refine ct (Z11.aj trivial) (bM (fun b:au×Bool=>ret (((au.r b.1),b.2):bN×Bool)) (fun c2=>fz) (fun c2=>?_))
 refine ct (Z11.aj trivial) (bM (fun b:au×Bool=>ret (((au.r b.1),b.2):bN×Bool)) (fun c3=>fz) (fun c3=>?_))
 refine ct (Z22.aj H0) (ct (Z32.aj H2) ?_)
 refine ct (Z33.aj H0) ?_
 simp only [SS]
 have h1:au.Sm (2^21) ((⟨(Z22.md a0 a1),0,1,a3,(i64.wrap (a3+a4)),(a2.length:Int),(Z32.md a2),a1,a0,(⟨[],0⟩:aL),0,(⟨[],0⟩:aL),false⟩:au)):=⟨H0,bg.nil,bg.nil⟩
 have h2:=Z36.aj h1
 simp only [au.r] at h2
 refine ct h2 (bM (fun b:au×Bool=>ret (((au.r b.1),b.2):bN×Bool)) (fun c4=>fz) (fun c4=>?_))
 simp only [au.r];rfl
def af:cj 325 aM:=W5 47 F mix az bn (vY Z15.af Z11.af Z22.af Z32.af Z33.af Z36.af) Tryz.func325
def fo {a0:aL}{a1:Int}{a2:List ah}{a3 a4:Int}(hg:gd a0 a1 a2 a3 a4):au.Sm (2^21) ((md a0 a1 a2 a3 a4).1):=by
 unfold md
 simp only [Bool.cond_eq_ite]
 repeat' split
 all_goals first | exact ⟨bg.nil,bg.nil,bg.nil⟩ | exact ⟨hg.1,bg.nil,bg.nil⟩
end Z37
namespace Z38
def F (x0:bN):aD:=(call (Z33.R x0.bV) fun v1=>(call (Z33.R x0.bG) fun v2=>(call (Z33.R x0.bD) fun v3=>ret ((⟨x0.aX,x0.cw,x0.bt,x0.cg,x0.cm,x0.bZ,x0.dx,x0.ec,v1,v2,x0.cW,v3,x0.bh⟩):bN))))
def md (a0:au):au:=a0
def gd (a0:au):Prop:=(au.Sm (2^21) a0)
def R:=RR gd md
def aj {a0}(h:gd a0):R (au.r a0)=some (au.r a0):=cQ h
def aM:=CN [.agg lu] (.agg f50) RT.dec R
def bn (a0)(H0:gd a0):F (au.r a0)=ret (au.r (md a0)):=by
 refine ct (Z33.aj H0.1) (ct (Z33.aj H0.2.1) ?_)
 exact ct (Z33.aj H0.2.2) fz
def af:cj 157 aM:=W1 18 F mix az bn (cO Z33.af) Tryz.func157
end Z38
namespace Z39
def F (x0:bN):aD:=(call (Z19.R x0.bV) fun v1=>(cA (eK (((8:Int)+v1.length)*8)) (call (Z19.R x0.bG) fun v2=>(cA (eK (((([[L.int x0.aX],[L.int x0.cw],[L.int x0.bt],[L.int x0.cg],[L.int x0.cm],[L.int x0.bZ],[L.int x0.dx],[L.int x0.ec]]++v1).length)+v2.length)*8)) (cA (eK ((((([[L.int x0.aX],[L.int x0.cw],[L.int x0.bt],[L.int x0.cg],[L.int x0.cm],[L.int x0.bZ],[L.int x0.dx],[L.int x0.ec]]++v1)++v2).length)+1)*8)) (call (Z19.R x0.bD) fun v3=>(cA (eK (((((([[L.int x0.aX],[L.int x0.cw],[L.int x0.bt],[L.int x0.cg],[L.int x0.cm],[L.int x0.bZ],[L.int x0.dx],[L.int x0.ec]]++v1)++v2)++[[L.int x0.cW]]).length)+v3.length)*8)) (cond x0.bh (cA (eK ((((((([[L.int x0.aX],[L.int x0.cw],[L.int x0.bt],[L.int x0.cg],[L.int x0.cm],[L.int x0.bZ],[L.int x0.dx],[L.int x0.ec]]++v1)++v2)++[[L.int x0.cW]])++v3).length)+1)*8)) (ret (((((([[L.int x0.aX],[L.int x0.cw],[L.int x0.bt],[L.int x0.cg],[L.int x0.cm],[L.int x0.bZ],[L.int x0.dx],[L.int x0.ec]]++v1)++v2)++[[L.int x0.cW]])++v3)++[[L.int 1]]):aq))) (cA (eK ((((((([[L.int x0.aX],[L.int x0.cw],[L.int x0.bt],[L.int x0.cg],[L.int x0.cm],[L.int x0.bZ],[L.int x0.dx],[L.int x0.ec]]++v1)++v2)++[[L.int x0.cW]])++v3).length)+1)*8)) (ret (((((([[L.int x0.aX],[L.int x0.cw],[L.int x0.bt],[L.int x0.cg],[L.int x0.cm],[L.int x0.bZ],[L.int x0.dx],[L.int x0.ec]]++v1)++v2)++[[L.int x0.cW]])++v3)++[[L.int 0]]):aq)))))))))))
def md (a0:au):List Int:=(cond a0.bh ((((([a0.aX,a0.cw,a0.bt,a0.cg,a0.cm,a0.bZ,a0.dx,a0.ec]++(Z19.md a0.bV))++(Z19.md a0.bG))++[a0.cW])++(Z19.md a0.bD))++[1]) ((((([a0.aX,a0.cw,a0.bt,a0.cg,a0.cm,a0.bZ,a0.dx,a0.ec]++(Z19.md a0.bV))++(Z19.md a0.bG))++[a0.cW])++(Z19.md a0.bD))++[0]))
def gd (a0:au):Prop:=(au.Sm (2^21) a0)
def R:=RR gd md
def aj {a0}(h:gd a0):R (au.r a0)=some ((md a0).map aV):=cQ h
def aM:=CN [.agg lu] (oL 3) RT.dec R
def bn (a0)(H0:gd a0):F (au.r a0)=ret ((md a0).map aV):=by
 refine ct (Z19.aj H0.1) (aG (have:=Z19.len a0.bV;have:=(H0.1).1;lm) ?_)
 refine ct (Z19.aj H0.2.1) (aG (have:=Z19.len a0.bV;have:=(H0.1).1;have:=Z19.len a0.bG;have:=(H0.2.1).1;lm) ?_)
 refine aG (have:=Z19.len a0.bV;have:=(H0.1).1;have:=Z19.len a0.bG;have:=(H0.2.1).1;lm) (ct (Z19.aj H0.2.2) ?_)
 exact aG (have:=Z19.len a0.bV;have:=(H0.1).1;have:=Z19.len a0.bG;have:=(H0.2.1).1;have:=Z19.len a0.bD;have:=(H0.2.2).1;lm) (bM (fun b:List Int=>ret ((b.map aV):aq)) (fun c1=>aG (have:=Z19.len a0.bV;have:=(H0.1).1;have:=Z19.len a0.bG;have:=(H0.2.1).1;have:=Z19.len a0.bD;have:=(H0.2.2).1;lm) fz) (fun c1=>aG (have:=Z19.len a0.bV;have:=(H0.1).1;have:=Z19.len a0.bG;have:=(H0.2.1).1;have:=Z19.len a0.bD;have:=(H0.2.2).1;lm) fz))
def af:cj 292 aM:=W1 49 F mix az bn (cO Z19.af) Tryz.func292
def len (a0:au):(md a0).length=16+a0.bV.bz.length+a0.bG.bz.length+a0.bD.bz.length:=by unfold md;cases a0.bh<;>simp [Z19.md]<;>omega
def C0 {k l:aL}{x y:List Int}(h:Z19.md k++x=Z19.md l++y):k=l/\x=y:=by
 obtain ⟨kl,kn⟩:=k
 obtain ⟨ll,ln⟩:=l
 simp only [Z19.md,List.cons_append,List.nil_append,List.cons.injEq] at h
 obtain ⟨h1,h2,h3⟩:=h
 obtain ⟨h4,h5⟩:=List.append_inj h3 (by omega)
 exact ⟨by rw [h1,h4],h5⟩
def vk (a:au):md a=a.aX::a.cw::a.bt::a.cg::a.cm::a.bZ::a.dx::a.ec::(Z19.md a.bV++(Z19.md a.bG++(a.cW::(Z19.md a.bD++[bif a.bh then 1 else 0])))):=by
 unfold md
 cases a.bh<;>simp only [aO,aR,List.append_assoc,List.cons_append,List.nil_append]
def inj {a b:au}(h:md a=md b):a=b:=by
 rw [vk,vk] at h
 simp only [List.cons.injEq] at h
 obtain ⟨g1,g2,g3,g4,g5,g6,g7,g8,g9⟩:=h
 obtain ⟨k1,g9⟩:=C0 g9
 obtain ⟨k2,g9⟩:=C0 g9
 simp only [List.cons.injEq] at g9
 obtain ⟨k3,g9⟩:=g9
 obtain ⟨k4,g9⟩:=C0 g9
 have k5:a.bh=b.bh:=by
  simp only [List.cons.injEq,and_true] at g9
  revert g9
  cases a.bh<;>cases b.bh<;>simp
 cases a;cases b
 simp only [au.mk.injEq]
 exact ⟨g1,g2,g3,g4,g5,g6,g7,g8,k1,k2,k3,k4,k5⟩
end Z39
namespace Z40
inductive Pt where
 | p0 (a:aq) (b c:Int)
def cM:Pt->List V
 | .p0 a b c=>[.sl none 3 a,.int .i64 b,.int .i64 c]
def step (J:Pt->aD):Pt->aD
 | .p0 a b c=>(cond (c<(a.length:Int)) (m2 c (a.length:Int) (cond ((jz a (toNat c))==b) nS (J (.p0 a b (i64.wrap (c+1)))))) eM)
def start (J:Pt->aD)(x0:aq)(x1:Int):aD:=J (.p0 x0 x1 0)
def live:Nat->Live:=gL [(2,jC [0,1,5])]
def md (a0:List Int)(a1:Int):Bool:=(dM (S:=Unit) (β:=Bool) (fun y1 s3=>(cond (y1==a1) (.inr true) (.inl ()))) (fun s3=>false) a0 ())
def gd (a0:List Int)(a1:Int):Prop:=(bg (2^38) (fun y:Int=>True) a0)
def R:=cI gd md
def aj {a0 a1}(h:gd a0 a1):R ((a0.map aV),a1)=some (md a0 a1):=cH h
def aM:=CN [pL 3,pI] oB RT.dec R
def bn (a0)(a1)(H0:gd a0 a1):∃n,start (iter step n) (a0.map aV) a1=ret (md a0 a1):=by
 have Bh2:=bl H0
 refine ex_eq (dZ (z:=0)) (dy fz ?_)
 refine bH (pt:=fun (i1:Nat) (s3:Unit)=>Pt.p0 (a0.map aV) a1 (i1:Int)) (fun _ _=>True) (fun J i1 s3 h2 hih2=>?_) (fun s3 hih2=>?_) trivial
 ·simp only [step,SS]
  refine aP.yes dt (aP.yes bB ?_)
  refine aP.yes (bQ h2) (aP.bif (fun _=>aP.inr rfl) (fun c4=>?_))
  refine aP.inl trivial ?_
  rw [aF h2 Bh2]
 ·simp only [step,SS]
  refine cL dn (⟨0,?_⟩)
  exact fz
def af:cj 432 aM:=L2 18 (fun _=>2) cM (fun _=>[]) live step start mix az bn .nil Tryz.func432
end Z40
namespace Z41
def F (x0:Int)(x1:aq):aD:=(cA (eK (((1:Int)+x1.length)*8)) (cA (eK (((([[L.int x0]]++x1).length)+1)*8)) (call (Z21.R (([[L.int x0]]++x1)++[[L.int x0]])) fun v1=>ret v1)))
def md (a0:Int)(a1:List Int):Int:=((Z21.md (([a0]++a1)++[a0])))
def gd (a0:Int)(a1:List Int):Prop:=(bg (2^40) (fun y:Int=>True) a1)
def R:=cI gd md
def aj {a0 a1}(h:gd a0 a1):R (a0,(a1.map aV))=some (md a0 a1):=cH h
def aM:=CN [pI,pL 3] oI RT.dec R
def bn (a0)(a1)(H1:gd a0 a1):F a0 (a1.map aV)=ret (md a0 a1):=by
 refine aG (have:=(H1).1;lm) (aG (have:=(H1).1;lm) ?_)
 exact cG _ (rq (Z21.aj (a0:=(([a0]++a1)++[a0])) ⟨(have:=(H1).1;om),fun _ _=>trivial⟩)) fz
def af:cj 464 aM:=W2 13 F mix az bn (cO Z21.af) Tryz.func464
end Z41
namespace Z42
def F (x0:Int)(x1:aq):aD:=(cA (eK (((1:Int)+x1.length)*8)) (call (Z41.R (x0,([[L.int 223]]++x1))) fun v1=>ret v1))
def md (a0:Int)(a1:List Int):Int:=((Z41.md a0 ([223]++a1)))
def gd (a0:Int)(a1:List Int):Prop:=(bg (2^39) (fun y:Int=>True) a1)
def R:=cI gd md
def aj {a0 a1}(h:gd a0 a1):R (a0,(a1.map aV))=some (md a0 a1):=cH h
def aM:=CN [pI,pL 3] oI RT.dec R
def bn (a0)(a1)(H1:gd a0 a1):F a0 (a1.map aV)=ret (md a0 a1):=by
 refine aG (have:=(H1).1;lm) (cG _ (rq (Z41.aj (a1:=([223]++a1)) ⟨(have:=(H1).1;om),fun _ _=>trivial⟩)) ?_)
 exact fz
def af:cj 433 aM:=W2 10 F mix az bn (cO Z41.af) Tryz.func433
end Z42
namespace Z43
inductive Pt where
 | p0 (a b:aq) (c:Int) (d:cX) (e:aq)
def cM:Pt->List V
 | .p0 a b c d e=>[.sl none 3 a,.sl none 3 b,.bP 0 0,.own 1,.int .i64 c]
def dQ:Pt->List aK
 | .p0 a b c d e=>[.box [.sl none 3 d.bz,.int .i64 d.dw],.row 315 e]
def step (J:Pt->aD):Pt->aD
 | .p0 a b c d e=>(cond (c<(d.bz.length:Int)) (m2 c (d.bz.length:Int) (call (Z40.R (a,(jz d.bz (toNat c)))) fun v1=>(cond v1 (m2 c (d.bz.length:Int) (m2 c (d.bz.length:Int) (call (Z42.R ((jz d.bz (toNat c)),b)) fun v2=>(cA (eK (((e.length:Int)+1)*16)) (J (.p0 a b (i64.wrap (c+1)) d (e++[(bE.enc (⟨(jz d.bz (toNat c)),v2⟩:bE))]))))))) (J (.p0 a b (i64.wrap (c+1)) d e))))) (ret (e:aq)))
def start (J:Pt->aD)(x0:aq)(x1:cX)(x2:aq):aD:=J (.p0 x0 x2 0 x1 [])
def live:Nat->Live:=gL [(3,[(0,none),(2,none),(4,none),(7,some 315),(8,none)])]
def md (a0:List Int)(a1:aL)(a2:List Int):List bE:=(dM (S:=List bE) (β:=List bE) (fun y1 (s3:List bE)=>(cond (Z40.md a0 y1) (.inl (s3++[(⟨y1,(Z42.md y1 a2)⟩)])) (.inl s3))) (fun (s3:List bE)=>s3) a1.bz [])
def gd (a0:List Int)(a1:aL)(a2:List Int):Prop:=(bg (2^38) (fun y:Int=>True) a0)/\(aL.Sm (2^21) a1)/\(bg (2^38) (fun y:Int=>True) a2)
def R:=lP gd md
def aj {a0 a1 a2}(h:gd a0 a1 a2):R ((a0.map aV),(aL.r a1),(a2.map aV))=some ((md a0 a1 a2).map bE.row):=mq h
def aM:=CN [pL 3,.agg qW,pL 3] (oL 315) RT.dec R
def bn (a0) (a1) (a2) (hg : gd a0 a1 a2) : ∃ n, start (iter step n) (a0.map aV) (aL.r a1) (a2.map aV) = ret ((md a0 a1 a2).map bE.row) := by
  obtain ⟨H0, H1, H2⟩ := hg
  have Bh2 := bl H1
  refine ex_eq (out := (fun b : List bE => ret ((b.map bE.row) : aq))) (dZ (z := 0)) (dy fz ?_)
  refine bH (pt := fun (i1 : Nat) (s3 : List bE) => Pt.p0 (a0.map aV) (a2.map aV) (i1 : Int) (aL.r a1) (s3.map bE.row)) (s := ([] : List bE)) (out := (fun b : List bE => ret ((b.map bE.row) : aq))) (fun (i1 : Nat) (s3 : List bE) => s3.length <= ([] : List Int).length + 1 * i1) (fun J i1 s3 h2 hih2 => ?_) (fun s3 hih2 => ?_) (by simp)
  · simp only [step, SS]
    have gr_ := hih2
    simp only [LN] at gr_
    have := (H1).1
    refine aP.yes dt (aP.yes bB ?_)
    refine aP.yes (bQ h2) (cr (Z40.aj H0) ?_)
    refine aP.bif (fun c4 => ?_) (fun c4 => ?_)
    · refine aP.yes bB (aP.yes (bQ h2) ?_)
      refine aP.yes bB (aP.yes (bQ h2) ?_)
      refine cr (Z42.aj (H2.mono (by decide) (fun x hx => trivial))) (aP.yes lm ?_)
      refine aP.inl (by
          (simp; omega)) ?_
      rw [aF h2 Bh2]
      exact fz
    · refine aP.inl (by
          (simp; omega)) ?_
      rw [aF h2 Bh2]
  · simp only [step, SS]
    refine cL dn (⟨0, ?_⟩)
    exact fz
def af:cj 387 aM:=L3 41 (fun _=>3) cM dQ live step start mix az bn (fc Z40.af Z42.af) Tryz.func387
def D1 (a0:List Int)(a1:aL)(a2:List Int):(md a0 a1 a2).length<=a1.bz.length:=by
 have h:=uz (f:=fun (y1:Int) (s3:List bE)=>(cond (Z40.md a0 y1) (.inl (s3++[(⟨y1,(Z42.md y1 a2)⟩:bE)])) (.inl s3))) (fun y s=>by
  cases Z40.md a0 y
  ·exact ⟨s,.inl rfl,Nat.le_succ _⟩
  ·exact ⟨_,.inl rfl,by simp⟩) a1.bz []
 simpa [md] using h
end Z43
namespace Z44
def F (x0:aq)(x1:cX)(x2:bN):aD:=(call (Z38.R x2) fun v1=>(call (Z39.R x2) fun v2=>(call (Z43.R (x0,x1,v2)) fun v3=>ret ((⟨v1,v3⟩):aU))))
def md (a0:List Int)(a1:aL)(a2:au):aa:=(⟨a2,(Z43.md a0 a1 (Z39.md a2))⟩)
def gd (a0:List Int)(a1:aL)(a2:au):Prop:=(bg (2^38) (fun y:Int=>True) a0)/\(aL.Sm (2^21) a1)/\(au.Sm (2^21) a2)
def R:=lP gd md
def aj {a0 a1 a2}(h:gd a0 a1 a2):R ((a0.map aV),(aL.r a1),(au.r a2))=some (aa.r (md a0 a1 a2)):=mq h
def aM:=CN [pL 3,.agg qW,.agg lu] (.agg f53) RT.dec R
def bn (a0)(a1)(a2)(hg:gd a0 a1 a2):F (a0.map aV) (aL.r a1) (au.r a2)=ret (aa.r (md a0 a1 a2)):=by
 obtain ⟨H0,H1,H2⟩:=hg
 refine ct (Z38.aj H2) (ct (Z39.aj H2) ?_)
 exact ct (Z43.aj ⟨H0,H1,⟨(have:=Z39.len a2;have:=(H2.1).1;have:=(H2.2.1).1;have:=(H2.2.2).1;om),fun _ _=>trivial⟩⟩) fz
def af:cj 326 aM:=W3 15 F mix az bn (jB Z38.af Z39.af Z43.af) Tryz.func326
def fo {a0:List Int}{a1:aL}{a2:au}(hg:gd a0 a1 a2):aa.Sm (2^21) (md a0 a1 a2):=⟨hg.2.2,le_trans (Z43.D1 _ _ _) hg.2.1.1,fun _ _=>trivial⟩
def DH {k:Nat}{a0:List Int}{a1:aL}{a2:au}(h1:aL.Sm k a1)(h2:au.Sm k a2):aa.Sm k (md a0 a1 a2):=
 ⟨h2,le_trans (Z43.D1 _ _ _) h1.1,fun _ _=>trivial⟩
end Z44
namespace Z45
def F (x0:cX)(x1:Int)(x2:aq)(x3 x4:Int):aD:=(call (Z37.R (x0,x1,x2,x3,x4)) fun v1=>(cond (!v1.2) (ret (((⟨[],[]⟩),false):bU×Bool)) (call (Z44.R (x0.bz,x0,v1.1)) fun v2=>(call (Z16.R x2) fun v3=>ret (((⟨[(aU.enc v2)],v3⟩),true):bU×Bool)))))
def md (a0:aL)(a1:Int)(a2:List ah)(a3 a4:Int):aH×Bool:=(cond (!(Z37.md a0 a1 a2 a3 a4).2) ((⟨[],[]⟩),false) ((⟨[(Z44.md a0.bz a0 ((Z37.md a0 a1 a2 a3 a4).1))],a2⟩),true))
def gd (a0:aL)(a1:Int)(a2:List ah)(a3 a4:Int):Prop:=(aL.Sm (2^21) a0)/\(bg (2^21) (fun y:ah=>ah.Sm (2^21) y) a2)
def R:=sL gd md
def aj {a0 a1 a2 a3 a4}(h:gd a0 a1 a2 a3 a4):R ((aL.r a0),a1,(a2.map ah.row),a3,a4)=some ((aH.r (md a0 a1 a2 a3 a4).1),(md a0 a1 a2 a3 a4).2):=sR h
def aM:=CN [.agg qW,pI,pL 62,pI,pI] (.gW [(true,f188),(false,[fB])]) RT.dec R
def bn (a0)(a1)(a2)(a3)(a4)(hg:gd a0 a1 a2 a3 a4):F (aL.r a0) a1 (a2.map ah.row) a3 a4=ret ((aH.r (md a0 a1 a2 a3 a4).1),(md a0 a1 a2 a3 a4).2):=by
 obtain ⟨H0,H2⟩:=hg
 refine ct (Z37.aj ⟨H0,H2⟩) (bM (fun b:aH×Bool=>ret (((aH.r b.1),b.2):bU×Bool)) (fun c1=>fz) (fun c1=>?_))
 refine ct (Z44.aj ⟨(H0.mono (by decide) (fun x hx=>trivial)),H0,(Z37.fo ⟨H0,H2⟩)⟩) (ct (Z16.aj H2) ?_)
 exact fz
def af:cj 255 aM:=W5 35 F mix az bn (jB Z37.af Z44.af Z16.af) Tryz.func255
def ES (a0:Int):0<=Z20.md a0 2147483647/\Z20.md a0 2147483647<2147483647:=by
 have h:=Int.tmod_lt_of_pos a0 (b:=2147483647) (by decide)
 have h2:-2147483647<Int.tmod a0 2147483647:=by
  have:=Int.tmod_lt_of_pos (-a0) (b:=2147483647) (by decide)
  rw [Int.neg_tmod] at this;omega
 have e:Z20.md a0 2147483647=Int.tmod (i64.wrap (Int.tmod a0 2147483647+2147483647)) 2147483647:=rfl
 rw [e,wi _ (by omega)]
 exact rU (by omega) (by decide)
def CE (a0:List Int):0<=Z21.md a0/\Z21.md a0<2147483647:=by
 have key:∀(xs:List Int) (s:Int),0<=s->s<2147483647->0<=dM (fun (y1:Int) (s3:Int)=>(.inl (Int.tmod (i64.wrap ((i64.wrap ((i64.wrap (s3*1000003))+(Z20.md y1 2147483647)))+13)) 2147483647))) (fun (s3:Int)=>(s3:Int)) xs s/\dM (fun (y1:Int) (s3:Int)=>(.inl (Int.tmod (i64.wrap ((i64.wrap ((i64.wrap (s3*1000003))+(Z20.md y1 2147483647)))+13)) 2147483647))) (fun (s3:Int)=>(s3:Int)) xs s<2147483647:=by
  intro xs
  induction xs with
  | nil=>intro s h1 h2;exact ⟨h1,h2⟩
  | cons x xs ih=>
   intro s h1 h2
   have h3:=ES x
   have h4:0<=Int.tmod (i64.wrap ((i64.wrap ((i64.wrap (s*1000003))+(Z20.md x 2147483647)))+13)) 2147483647/\Int.tmod (i64.wrap ((i64.wrap ((i64.wrap (s*1000003))+(Z20.md x 2147483647)))+13)) 2147483647<2147483647:=by
    rw [wi (s*1000003) (by omega),wi (s*1000003+Z20.md x 2147483647) (by omega),wi _ (by omega)]
    exact rU (by omega) (by decide)
   exact ih _ h4.1 h4.2
 exact key a0 11 (by decide) (by decide)
def ok (z:aH):Prop:=(1<=z.aC.length/\bg 12 (fun y:aa=>aa.Sm 64 y) z.aC)/\bg 12 (fun y:ah=>ah.Sm 64 y) z.bI/\Z15.md z.bI=true
def BJ {z:aH}(h:ok z):aH.Sm 64 z:=⟨h.1.2.mono (by decide) fun _ h=>h,h.2.1.mono (by decide) fun _ h=>h⟩
def yp {k s:Int}{l:List ah}{now term:Int}(hk:1<=k/\k<=99)(hs:0<=s/\s<=2147483646)(hn:0<=now)(ht:0<=term/\term<=200)(hm:now+term<=100000)(hl:∀z∈l,ah.Sm 64 z)(ha:Z15.md l=true):ok (md ⟨[k],1⟩ s l now term).1:=by
 have inr:∀{x a b:Int},a<=x/\x<=b->Z11.md x a b=true:=fun h=>by simp [Z11.md];exact h
 have hz:=CE ([239,s]++Z19.md ⟨[k],1⟩)
 have hr:=CE [231,(l.length:Int),Z30.md (Z27.md l)]
 have h12:=Z15.tr ha
 have hik:Z34.md ⟨[k],1⟩=true:=by
  unfold Z34.md
  simp only [dY,inr hk,Bool.not_true,aR]
  rfl
 have e:Z37.md ⟨[k],1⟩ s l now term=(⟨Z22.md ⟨[k],1⟩ s,0,1,now,i64.wrap (now+term),(l.length:Int),Z32.md l,s,⟨[k],1⟩,⟨[],0⟩,0,⟨[],0⟩,false⟩,true):=by
  unfold Z37.md
  have e1:Z11.md now 0 100000=true:=inr (by omega)
  have e2:Z11.md term 0 200=true:=inr ht
  have hh:Z36.md ⟨Z22.md ⟨[k],1⟩ s,0,1,now,i64.wrap (now+term),(l.length:Int),Z32.md l,s,⟨[k],1⟩,⟨[],0⟩,0,⟨[],0⟩,false⟩=true:=by
   unfold Z36.md
   have a1:Z11.md (Z22.md ⟨[k],1⟩ s) 0 2147483646=true:=inr (by unfold Z22.md;omega)
   have a2:Z11.md (Z32.md l) 0 2147483646=true:=inr (by unfold Z32.md Z31.md;omega)
   have a3:Z11.md s 0 2147483646=true:=inr hs
   have a4:Z11.md now 0 100000=true:=e1
   have a5:Z11.md (i64.wrap (now+term)) now 100000=true:=inr (by rw [wi _ (by omega)];omega)
   have a6:decide (i64.wrap (i64.wrap (now+term) - now)>200)=false:=by
    rw [wi (now+term) (by omega),wi _ (by omega)];apply decide_eq_false;omega
   have a7:Z11.md (l.length:Int) 0 12=true:=inr (by omega)
   simp only [a1,a2,a3,a4,a5,a6,a7,hik,Bool.not_true,aR]
   rfl
  rw [ha,e1,e2,hh]
  rfl
 have hSm:aL.Sm 64 ⟨[k],1⟩:=⟨(show (1:Nat)<=64 by decide),fun _ _=>trivial⟩
 unfold md
 rw [e]
 refine ⟨⟨Nat.le_refl _,(show (1:Nat)<=12 by decide),?_⟩,⟨h12,hl⟩,ha⟩
 intro x hx
 have hx:x=_:=List.mem_singleton.1 hx
 rw [hx]
 exact Z44.DH hSm ⟨hSm,bg.nil,bg.nil⟩
end Z45
namespace Z46
def F (x0:bE)(x1:aq):aD:=(call (Z11.R (x0.jJ,1,99)) fun v1=>(cond v1 (call (Z42.R (x0.jJ,x1)) fun v2=>ret ((x0.pg==v2))) (ret false)))
def md (a0:bE)(a1:List Int):Bool:=(cond (Z11.md a0.jJ 1 99) ((a0.pg==(Z42.md a0.jJ a1))) false)
def gd (a0:bE)(a1:List Int):Prop:=(bg (2^38) (fun y:Int=>True) a1)
def R:=cI gd md
def aj {a0 a1}(h:gd a0 a1):R (a0,(a1.map aV))=some (md a0 a1):=cH h
def aM:=CN [.agg C9,pL 3] oB RT.dec R
def bn (a0)(a1)(H1:gd a0 a1):F a0 (a1.map aV)=ret (md a0 a1):=by
 refine ct (Z11.aj trivial) (bs (fun c1=>?_) (fun _=>rfl))
 exact ct (Z42.aj (H1.mono (by decide) (fun x hx=>trivial))) fz
def af:cj 423 aM:=W2 17 F mix az bn (fc Z11.af Z42.af) Tryz.func423
end Z46
namespace Z47
inductive Pt where
 | p0 (a b:aq) (c d:Int) (e:cX)
 | p1 (a b:aq) (c d e:Int) (f:cX)
def pid:Pt->Nat
 | .p0 ..=>3
 | .p1 ..=>6
def cM:Pt->List V
 | .p0 a b c d e=>[.sl none 3 a,.sl none 315 b,.bP 0 0,.int .i64 c,.int .i64 d]
 | .p1 a b c d e f=>[.sl none 3 a,.sl none 315 b,.bP 0 0,.int .i64 c,.int .i64 d,.int .i64 e]
def dQ:Pt->List aK
 | .p0 a b c d e=>[.box [.sl none 3 e.bz,.int .i64 e.dw]]
 | .p1 a b c d e f=>[.box [.sl none 3 f.bz,.int .i64 f.dw]]
def step (J:Pt->aD):Pt->aD
 | .p0 a b c d e=>(cond (d<(e.bz.length:Int)) (J (.p1 a b c d 0 e)) (ret (c:Int)))
 | .p1 a b c d e f=>(cond (e<(b.length:Int)) (m2 e (b.length:Int) (m2 d (f.bz.length:Int) (cond ((bE.at b (toNat e)).jJ==(jz f.bz (toNat d))) (m2 e (b.length:Int) (call (Z46.R ((bE.at b (toNat e)),a)) fun v1=>(cond v1 (J (.p0 a b (i64.wrap (c+1)) (i64.wrap (d+1)) f)) (J (.p1 a b c d (i64.wrap (e+1)) f))))) (J (.p1 a b c d (i64.wrap (e+1)) f))))) (J (.p0 a b c (i64.wrap (d+1)) f)))
def start (J:Pt->aD)(x0:cX)(x1 x2:aq):aD:=J (.p0 x1 x2 0 0 x0)
def live:Nat->Live:=gL [(3,jC [1,2,3,7,8]),(6,jC [1,2,3,7,8,9])]
def md (a0:aL)(a1:List Int)(a2:List bE):Int:=(dM (S:=Int) (β:=Int) (fun y1 s3=>(dM (S:=Unit) (β:=(Int⊕Int)) (fun y5 s7=>(cond (y5.jJ==y1) (cond (Z46.md y5 a1) (.inr (.inl (i64.wrap (s3+1)))) (.inl ())) (.inl ()))) (fun s7=>(.inl s3)) a2 ())) (fun s3=>s3) a0.bz 0)
def gd (a0:aL)(a1:List Int)(a2:List bE):Prop:=(aL.Sm (2^21) a0)/\(bg (2^38) (fun y:Int=>True) a1)/\(bg (2^21) (fun y:bE=>bE.Sm (2^21) y) a2)
def R:=lP gd md
def aj {a0 a1 a2}(h:gd a0 a1 a2):R ((aL.r a0),(a1.map aV),(a2.map bE.row))=some (md a0 a1 a2):=mq h
def aM:=CN [.agg qW,pL 3,pL 315] oI RT.dec R
def bn (a0)(a1)(a2)(hg:gd a0 a1 a2):∃n,start (iter step n) (aL.r a0) (a1.map aV) (a2.map bE.row)=ret (md a0 a1 a2):=by
 obtain ⟨H0,H1,H2⟩:=hg
 have Bh2:=bl H0
 refine ex_eq (dZ (z:=0)) (dy fz ?_)
 refine xQ (pt:=fun (i1:Nat) (s3:Int)=>Pt.p0 (a1.map aV) (a2.map bE.row) s3 (i1:Int) (aL.r a0)) (fun _ _=>True) (fun i1 s3 h2 hih2 K4 hK4 rK4=>?_) (fun s3 hih2=>?_) trivial
 ·simp only [step,SS]
  refine dP dt ?_
  have Bh6:=bl H2
  refine ex_eq (dZ (z:=bE.zero)) (dy fz ?_)
  refine xQ (pt:=fun (i5:Nat) (s7:Unit)=>Pt.p1 (a1.map aV) (a2.map bE.row) s3 (i1:Int) (i5:Int) (aL.r a0)) (fun _ _=>True) (fun i5 s7 h6 hih6 K8 hK8 rK8=>?_) (fun s7 hih6=>?_) trivial
  ·simp only [step,SS]
   refine dP dt (dP bB ?_)
   refine dP (bQ h6) (dP dt ?_)
   refine dP dt (gE K8 (fun c9=>?_) (fun c9=>?_))
   ·refine dP bB (dP (bQ h6) ?_)
    refine cx (Z46.aj H1) (gE K8 (fun c10=>?_) (fun c10=>?_))
    ·rw [rK8]
     rw [aF h2 Bh2]
     exact hK4 _ trivial
    ·rw [aF h6 Bh6]
     exact hK8 _ trivial
   ·rw [aF h6 Bh6]
    exact hK8 _ trivial
  ·simp only [step,SS]
   refine cL dn ?_
   rw [aF h2 Bh2]
   exact hK4 _ trivial
 ·simp only [step,SS]
  refine cL dn (⟨0,?_⟩)
  exact fz
def af:cj 368 aM:=L3 45 pid cM dQ live step start mix az bn (cO Z46.af) Tryz.func368
end Z47
namespace Z48
def F (x0:cX)(x1 x2:aq):aD:=(call (Z34.R x0) fun v1=>(cond v1 (call (Z47.R (x0,x1,x2)) fun v2=>ret ((decide (v2>=x0.dw)))) (ret false)))
def md (a0:aL)(a1:List Int)(a2:List bE):Bool:=(cond (Z34.md a0) ((decide ((Z47.md a0 a1 a2)>=a0.dw))) false)
def gd (a0:aL)(a1:List Int)(a2:List bE):Prop:=(aL.Sm (2^21) a0)/\(bg (2^38) (fun y:Int=>True) a1)/\(bg (2^21) (fun y:bE=>bE.Sm (2^21) y) a2)
def R:=lP gd md
def aj {a0 a1 a2}(h:gd a0 a1 a2):R ((aL.r a0),(a1.map aV),(a2.map bE.row))=some (md a0 a1 a2):=mq h
def aM:=CN [.agg qW,pL 3,pL 315] oB RT.dec R
def bn (a0)(a1)(a2)(hg:gd a0 a1 a2):F (aL.r a0) (a1.map aV) (a2.map bE.row)=ret (md a0 a1 a2):=by
 obtain ⟨H0,H1,H2⟩:=hg
 refine ct (Z34.aj H0) (bs (fun c1=>?_) (fun _=>rfl))
 exact ct (Z47.aj ⟨H0,H1,H2⟩) fz
def af:cj 300 aM:=W3 18 F mix az bn (fc Z34.af Z47.af) Tryz.func300
end Z48
namespace Z49
def F (x0:aU):aD:=(call (Z36.R x0.an) fun v1=>(cond v1 (cond (x0.an.cw==0) (cond (x0.an.bt==1) (cond (!x0.an.bh) (call (Z22.R (x0.an.bV,x0.an.ec)) fun v2=>(cond (x0.an.aX==v2) (call (Z39.R x0.an) fun v3=>(call (Z48.R (x0.an.bV,v3,x0.dR)) fun v4=>ret v4)) (ret false))) (ret false)) (ret false)) (ret false)) (ret false)))
def md (a0:aa):Bool:=(cond (Z36.md a0.an) (cond (a0.an.cw==0) (cond (a0.an.bt==1) (cond (!a0.an.bh) (cond (a0.an.aX==(Z22.md a0.an.bV a0.an.ec)) ((Z48.md a0.an.bV (Z39.md a0.an) a0.dR)) false) false) false) false) false)
def gd (a0:aa):Prop:=(aa.Sm (2^21) a0)
def R:=RR gd md
def aj {a0}(h:gd a0):R (aa.r a0)=some (md a0):=cQ h
def aM:=CN [.agg wh] oB RT.dec R
def bn (a0)(H0:gd a0):F (aa.r a0)=ret (md a0):=by
 refine ct (Z36.aj H0.1) (bs (fun c1=>?_) (fun _=>rfl))
 refine bs (fun c2=>?_) (fun _=>rfl)
 refine bs (fun c3=>?_) (fun _=>rfl)
 refine bs (fun c4=>?_) (fun _=>rfl)
 refine ct (Z22.aj H0.1.1) (bs (fun c5=>?_) (fun _=>rfl))
 refine ct (Z39.aj H0.1) (ct (Z48.aj ⟨H0.1.1,⟨(have:=Z39.len a0.an;have:=(H0.1.1).1;have:=(H0.1.2.1).1;have:=(H0.1.2.2).1;om),fun _ _=>trivial⟩,H0.2⟩) ?_)
 exact fz
def af:cj 226 aM:=W1 42 F mix az bn (nP Z36.af Z22.af Z39.af Z48.af) Tryz.func226
end Z49
namespace Z50
def F (x0:bN):aD:=(call (Z39.R x0) fun v1=>(cA (eK (((1:Int)+v1.length)*8)) (call (Z21.R ([[L.int 233]]++v1)) fun v2=>ret v2)))
def md (a0:au):Int:=((Z21.md ([233]++(Z39.md a0))))
def gd (a0:au):Prop:=(au.Sm (2^21) a0)
def R:=RR gd md
def aj {a0}(h:gd a0):R (au.r a0)=some (md a0):=cQ h
def aM:=CN [.agg lu] oI RT.dec R
def bn (a0)(H0:gd a0):F (au.r a0)=ret (md a0):=by
 refine ct (Z39.aj H0) (aG (have:=Z39.len a0;have:=(H0.1).1;have:=(H0.2.1).1;have:=(H0.2.2).1;lm) ?_)
 exact cG _ (rq (Z21.aj (a0:=([233]++(Z39.md a0))) ⟨(have:=Z39.len a0;have:=(H0.1).1;have:=(H0.2.1).1;have:=(H0.2.2).1;om),fun _ _=>trivial⟩)) fz
def af:cj 369 aM:=W1 8 F mix az bn (fc Z39.af Z21.af) Tryz.func369
end Z50
namespace Z51
def F (x0 x1:bN):aD:=(cond x0.bh (ret (4:Int)) (cond x1.bh (ret (6:Int)) (ret (1:Int))))
def md (a0 a1:au):Int:=(cond a0.bh (4:Int) (cond a1.bh (6:Int) (1:Int)))
def gd (a0 a1:au):Prop:=True
def R:=cI gd md
def aj {a0 a1}(h:gd a0 a1):R ((au.r a0),(au.r a1))=some (md a0 a1):=cH h
def aM:=CN [.agg lu,.agg lu] oI RT.dec R
def bn (a0)(a1)(hg:gd a0 a1):F (au.r a0) (au.r a1)=ret (md a0 a1):=by
 refine bs (fun _=>rfl) (fun c1=>?_)
 refine bs (fun _=>rfl) (fun _=>rfl)
def af:cj 370 aM:=W2 11 F mix az bn .nil Tryz.func370
end Z51
namespace Z52
inductive Pt where
 | p0 (a b:aq) (c:Int)
def cM:Pt->List V
 | .p0 a b c=>[.sl none 3 a,.sl none 3 b,.int .i64 c]
def step (J:Pt->aD):Pt->aD
 | .p0 a b c=>(cond (c<(a.length:Int)) (m2 c (a.length:Int) (m2 c (b.length:Int) (cond ((jz a (toNat c)) != (jz b (toNat c))) eM (J (.p0 a b (i64.wrap (c+1))))))) nS)
def start (J:Pt->aD)(x0 x1:aq):aD:=(cond (x0.length != (x1.length:Int)) (ret false) (J (.p0 x0 x1 0)))
def live:Nat->Live:=gL [(4,jC [0,1,5])]
def md (a0 a1:List Int):Bool:=(bif (a0.length != (a1.length:Int)) then false else (eB (S:=Unit) (β:=Bool) (fun i2 s4=>(cond ((a0.getD i2 0) != (a1.getD i2 0)) (.inr false) (.inl ()))) (fun s4=>true) a0.length 0 ()))
def gd (a0 a1:List Int):Prop:=(bg (2^38) (fun y:Int=>True) a0)/\(bg (2^38) (fun y:Int=>True) a1)
def R:=cI gd md
def aj {a0 a1}(h:gd a0 a1):R ((a0.map aV),(a1.map aV))=some (md a0 a1):=cH h
def aM:=CN [pL 3,pL 3] oB RT.dec R
def bn (a0)(a1)(hg:gd a0 a1):∃n,start (iter step n) (a0.map aV) (a1.map aV)=ret (md a0 a1):=by
 obtain ⟨H0,H1⟩:=hg
 unfold start md
 simp only [SS]
 refine gE ret (fun _=>⟨0,rfl⟩) (fun c1=>?_)
 have dc1:=c1
 simp only [DC] at dc1
 have Bh3:=bl H0
 refine dy fz (bH (pt:=fun (i2:Nat) (s4:Unit)=>Pt.p0 (a0.map aV) (a1.map aV) (i2:Int)) (fun _ _=>True) (fun J i2 s4 h3 hih3=>?_) (fun s4 hih3=>?_) trivial)
 ·simp only [step,SS]
  refine aP.yes dt (aP.yes bB ?_)
  refine aP.yes (bQ h3) (aP.yes bB ?_)
  refine aP.yes dt (aP.bif (fun _=>aP.inr rfl) (fun c5=>?_))
  refine aP.inl trivial ?_
  rw [aF h3 Bh3]
 ·simp only [step,SS]
  refine cL dn (⟨0,?_⟩)
  exact fz
def af:cj 291 aM:=L2 26 (fun _=>4) cM (fun _=>[]) live step start mix az bn .nil Tryz.func291
def md_eq (a0 a1:List Int):md a0 a1=iV a0 a1:=by
 refine iR (0) (fun i s h h2=>?_) (fun s=>rfl)
 simp only [bne,jQ,bool_beq,gp]
 cases iV _ _<;>rfl
end Z52
namespace Z53
def F (x0 x1:cX):aD:=(cond (x0.dw==x1.dw) (call (Z52.R (x0.bz,x1.bz)) fun v1=>ret v1) (ret false))
def md (a0 a1:aL):Bool:=(cond (a0.dw==a1.dw) ((Z52.md a0.bz a1.bz)) false)
def gd (a0 a1:aL):Prop:=(aL.Sm (2^21) a0)/\(aL.Sm (2^21) a1)
def R:=cI gd md
def aj {a0 a1}(h:gd a0 a1):R ((aL.r a0),(aL.r a1))=some (md a0 a1):=cH h
def aM:=CN [.agg qW,.agg qW] oB RT.dec R
def bn (a0)(a1)(hg:gd a0 a1):F (aL.r a0) (aL.r a1)=ret (md a0 a1):=by
 obtain ⟨H0,H1⟩:=hg
 refine bs (fun c1=>?_) (fun _=>rfl)
 exact ct (Z52.aj ⟨(H0.mono (by decide) (fun x hx=>trivial)),(H1.mono (by decide) (fun x hx=>trivial))⟩) fz
def af:cj 424 aM:=W2 17 F mix az bn (cO Z52.af) Tryz.func424
def md_eq (a0 a1:aL):md a0 a1=iV a0 a1:=by
 unfold md
 cases a0;cases a1
 rw [Bool.eq_iff_iff]
 simp [dO,gp,aL.mk.injEq,Z52.md_eq]
 try (constructor<;>(intro h;simp_all))
end Z53
namespace Z54
def F (x0 x1:bN):aD:=(cond (x0.bZ==x1.bZ) (ret ((x0.dx==x1.dx))) (ret false))
def md (a0 a1:au):Bool:=(cond (a0.bZ==a1.bZ) ((a0.dx==a1.dx)) false)
def gd (a0 a1:au):Prop:=True
def R:=cI gd md
def aj {a0 a1}(h:gd a0 a1):R ((au.r a0),(au.r a1))=some (md a0 a1):=cH h
def aM:=CN [.agg lu,.agg lu] oB RT.dec R
def bn (a0)(a1)(hg:gd a0 a1):F (au.r a0) (au.r a1)=ret (md a0 a1):=by
 refine bs (fun c1=>?_) (fun _=>rfl)
 exact fz
def af:cj 425 aM:=W2 17 F mix az bn .nil Tryz.func425
end Z54
namespace Z55
def F (x0 x1:bN):aD:=(cond x0.bh (ret (4:Int)) (call (Z35.R x0.bG) fun v1=>(cond v1 (ret (5:Int)) (cond (x1.cg<(i64.wrap (x0.cm+x0.cW))) (ret (5:Int)) (cond x1.bh (ret (6:Int)) (call (Z53.R (x1.bV,x0.bG)) fun v2=>(cond (!v2) (ret (6:Int)) (call (Z54.R (x1,x0)) fun v3=>(cond (!v3) (ret (6:Int)) (ret (1:Int)))))))))))
def md (a0 a1:au):Int:=(cond a0.bh (4:Int) (cond (Z35.md a0.bG) (5:Int) (cond (a1.cg<(i64.wrap (a0.cm+a0.cW))) (5:Int) (cond a1.bh (6:Int) (cond (!(Z53.md a1.bV a0.bG)) (6:Int) (cond (!(Z54.md a1 a0)) (6:Int) (1:Int)))))))
def gd (a0 a1:au):Prop:=(au.Sm (2^21) a0)/\(au.Sm (2^21) a1)
def R:=cI gd md
def aj {a0 a1}(h:gd a0 a1):R ((au.r a0),(au.r a1))=some (md a0 a1):=cH h
def aM:=CN [.agg lu,.agg lu] oI RT.dec R
def bn (a0)(a1)(hg:gd a0 a1):F (au.r a0) (au.r a1)=ret (md a0 a1):=by
 obtain ⟨H0,H1⟩:=hg
 refine bs (fun _=>rfl) (fun c1=>?_)
 refine ct (Z35.aj trivial) (bs (fun _=>rfl) (fun c2=>?_))
 refine bs (fun _=>rfl) (fun c3=>?_)
 refine bs (fun _=>rfl) (fun c4=>?_)
 refine ct (Z53.aj ⟨H1.1,H0.2.1⟩) (bs (fun _=>rfl) (fun c5=>?_))
 refine ct (Z54.aj trivial) (bs (fun _=>rfl) (fun _=>rfl))
def af:cj 371 aM:=W2 39 F mix az bn (jB Z35.af Z53.af Z54.af) Tryz.func371
end Z55
namespace Z56
def F (x0 x1:bN):aD:=(call (Z35.R x0.bD) fun v1=>(cond v1 (ret (5:Int)) (cond (x1.bh==x0.bh) (ret (6:Int)) (call (Z54.R (x1,x0)) fun v2=>(cond (!v2) (ret (6:Int)) (call (Z53.R (x1.bD,x0.bD)) fun v3=>(cond (!v3) (ret (6:Int)) (call (Z53.R (x1.bG,x0.bG)) fun v4=>(cond (!v4) (ret (6:Int)) (cond (x1.cW != x0.cW) (ret (6:Int)) (cond x1.bh (call (Z53.R (x1.bV,x0.bV)) fun v5=>(cond (!v5) (ret (6:Int)) (ret (1:Int)))) (ret (1:Int)))))))))))))
def md (a0 a1:au):Int:=(cond (Z35.md a0.bD) (5:Int) (cond (a1.bh==a0.bh) (6:Int) (cond (!(Z54.md a1 a0)) (6:Int) (cond (!(Z53.md a1.bD a0.bD)) (6:Int) (cond (!(Z53.md a1.bG a0.bG)) (6:Int) (cond (a1.cW != a0.cW) (6:Int) (cond a1.bh (cond (!(Z53.md a1.bV a0.bV)) (6:Int) (1:Int)) (1:Int))))))))
def gd (a0 a1:au):Prop:=(au.Sm (2^21) a0)/\(au.Sm (2^21) a1)
def R:=cI gd md
def aj {a0 a1}(h:gd a0 a1):R ((au.r a0),(au.r a1))=some (md a0 a1):=cH h
def aM:=CN [.agg lu,.agg lu] oI RT.dec R
def bn (a0)(a1)(hg:gd a0 a1):F (au.r a0) (au.r a1)=ret (md a0 a1):=by
 obtain ⟨H0,H1⟩:=hg
 refine ct (Z35.aj trivial) (bs (fun _=>rfl) (fun c1=>?_))
 refine bs (fun _=>rfl) (fun c2=>?_)
 refine ct (Z54.aj trivial) (bs (fun _=>rfl) (fun c3=>?_))
 refine ct (Z53.aj ⟨H1.2.2,H0.2.2⟩) (bs (fun _=>rfl) (fun c4=>?_))
 refine ct (Z53.aj ⟨H1.2.1,H0.2.1⟩) (bs (fun _=>rfl) (fun c5=>?_))
 refine bs (fun _=>rfl) (fun c6=>?_)
 refine bs (fun c7=>?_) (fun _=>rfl)
 refine ct (Z53.aj ⟨H1.1,H0.1⟩) (bs (fun _=>rfl) (fun _=>rfl))
def af:cj 372 aM:=W2 55 F mix az bn (jB Z35.af Z54.af Z53.af) Tryz.func372
end Z56
namespace Z57
def F (x0:bN)(x1:aU):aD:=(call (Z36.R x0) fun v1=>(cond (!v1) (ret (2:Int)) (call (Z36.R x1.an) fun v2=>(cond (!v2) (ret (2:Int)) (cond (x1.an.aX != x0.aX) (ret (3:Int)) (cond (x1.an.cw != (i64.wrap (x0.cw+1))) (ret (3:Int)) (call (Z50.R x0) fun v3=>(cond (x1.an.ec != v3) (ret (3:Int)) (cond (x1.an.cg<x0.cg) (ret (3:Int)) (call (Z51.R (x0,x1.an)) fun v4=>(cond (x1.an.bt==2) (call (Z55.R (x0,x1.an)) fun v5=>(cond (v5==1) (call (Z39.R x1.an) fun v6=>(call (Z48.R (x0.bG,v6,x1.dR)) fun v7=>(cond (!v7) (ret (7:Int)) (ret v5)))) (ret v5))) (cond (x1.an.bt==3) (call (Z56.R (x0,x1.an)) fun v8=>(cond (v8==1) (call (Z39.R x1.an) fun v9=>(call (Z48.R (x0.bD,v9,x1.dR)) fun v10=>(cond (!v10) (ret (7:Int)) (ret v8)))) (ret v8))) (cond (v4==1) (call (Z39.R x1.an) fun v11=>(call (Z48.R (x0.bV,v11,x1.dR)) fun v12=>(cond (!v12) (ret (7:Int)) (ret v4)))) (ret v4))))))))))))))
def md (a0:au)(a1:aa):Int:=(cond (!(Z36.md a0)) (2:Int) (cond (!(Z36.md a1.an)) (2:Int) (cond (a1.an.aX != a0.aX) (3:Int) (cond (a1.an.cw != (i64.wrap (a0.cw+1))) (3:Int) (cond (a1.an.ec != (Z50.md a0)) (3:Int) (cond (a1.an.cg<a0.cg) (3:Int) (cond (a1.an.bt==2) (cond ((Z55.md a0 a1.an)==1) (cond (!(Z48.md a0.bG (Z39.md a1.an) a1.dR)) (7:Int) ((Z55.md a0 a1.an))) ((Z55.md a0 a1.an))) (cond (a1.an.bt==3) (cond ((Z56.md a0 a1.an)==1) (cond (!(Z48.md a0.bD (Z39.md a1.an) a1.dR)) (7:Int) ((Z56.md a0 a1.an))) ((Z56.md a0 a1.an))) (cond ((Z51.md a0 a1.an)==1) (cond (!(Z48.md a0.bV (Z39.md a1.an) a1.dR)) (7:Int) ((Z51.md a0 a1.an))) ((Z51.md a0 a1.an)))))))))))
def gd (a0:au)(a1:aa):Prop:=(au.Sm (2^21) a0)/\(aa.Sm (2^21) a1)
def R:=cI gd md
def aj {a0 a1}(h:gd a0 a1):R ((au.r a0),(aa.r a1))=some (md a0 a1):=cH h
def aM:=CN [.agg lu,.agg wh] oI RT.dec R
def bn (a0)(a1)(hg:gd a0 a1):F (au.r a0) (aa.r a1)=ret (md a0 a1):=by
 obtain ⟨H0,H1⟩:=hg
 refine ct (Z36.aj H0) (bs (fun _=>rfl) (fun c1=>?_))
 refine ct (Z36.aj H1.1) (bs (fun _=>rfl) (fun c2=>?_))
 refine bs (fun _=>rfl) (fun c3=>?_)
 refine bs (fun _=>rfl) (fun c4=>?_)
 refine ct (Z50.aj H0) (bs (fun _=>rfl) (fun c5=>?_))
 refine bs (fun _=>rfl) (fun c6=>?_)
 refine ct (Z51.aj trivial) (bs (fun c7=>?_) (fun c7=>?_))
 ·refine ct (Z55.aj ⟨H0,H1.1⟩) (bs (fun c8=>?_) (fun c8=>fz))
  refine ct (Z39.aj H1.1) (ct (Z48.aj ⟨H0.2.1,⟨(have:=Z39.len a1.an;have:=(H1.1.1).1;have:=(H1.1.2.1).1;have:=(H1.1.2.2).1;om),fun _ _=>trivial⟩,H1.2⟩) ?_)
  refine bs (fun _=>rfl) (fun c9=>?_)
  exact fz
 ·refine bs (fun c10=>?_) (fun c10=>?_)
  ·refine ct (Z56.aj ⟨H0,H1.1⟩) (bs (fun c11=>?_) (fun c11=>fz))
   refine ct (Z39.aj H1.1) (ct (Z48.aj ⟨H0.2.2,⟨(have:=Z39.len a1.an;have:=(H1.1.1).1;have:=(H1.1.2.1).1;have:=(H1.1.2.2).1;om),fun _ _=>trivial⟩,H1.2⟩) ?_)
   refine bs (fun _=>rfl) (fun c12=>?_)
   exact fz
  ·refine bs (fun c13=>?_) (fun c13=>fz)
   refine ct (Z39.aj H1.1) (ct (Z48.aj ⟨H0.1,⟨(have:=Z39.len a1.an;have:=(H1.1.1).1;have:=(H1.1.2.1).1;have:=(H1.1.2.2).1;om),fun _ _=>trivial⟩,H1.2⟩) ?_)
   refine bs (fun _=>rfl) (fun c14=>?_)
   exact fz
def af:cj 301 aM:=W2 78 F mix az bn (yd Z36.af Z50.af Z51.af Z55.af Z39.af Z48.af Z56.af) Tryz.func301
end Z57
namespace Z58
def F (x0:bN)(x1:aU):aD:=(call (Z57.R (x0,x1)) fun v1=>ret ((v1==1)))
def md (a0:au)(a1:aa):Bool:=(((Z57.md a0 a1)==1))
def gd (a0:au)(a1:aa):Prop:=(au.Sm (2^21) a0)/\(aa.Sm (2^21) a1)
def R:=cI gd md
def aj {a0 a1}(h:gd a0 a1):R ((au.r a0),(aa.r a1))=some (md a0 a1):=cH h
def aM:=CN [.agg lu,.agg wh] oB RT.dec R
def bn (a0)(a1)(hg:gd a0 a1):F (au.r a0) (aa.r a1)=ret (md a0 a1):=by
 obtain ⟨H0,H1⟩:=hg
 exact ct (Z57.aj ⟨H0,H1⟩) fz
def af:cj 227 aM:=W2 9 F mix az bn (cO Z57.af) Tryz.func227
end Z58
namespace Z59
inductive Pt where
 | p0 (a:aq) (b:Int)
def cM:Pt->List V
 | .p0 a b=>[.sl none 53 a,.int .i64 b]
def step (J:Pt->aD):Pt->aD
 | .p0 a b=>(cond (b<(a.length:Int)) (cond (b==0) (cA ((0:Int)<(a.length:Int)) (call (Z49.R (aU.at a 0)) fun v1=>(cond (!v1) (ret (b:Int)) (cond (b>0) (cA ((0:Int)<=(i64.wrap (b - 1))) (cA ((i64.wrap (b - 1))<(a.length:Int)) (m2 b (a.length:Int) (call (Z58.R ((aU.at a (toNat (i64.wrap (b - 1)))).an,(aU.at a (toNat b)))) fun v2=>(cond (!v2) (ret (b:Int)) (J (.p0 a (i64.wrap (b+1))))))))) (J (.p0 a (i64.wrap (b+1)))))))) (cond (b>0) (cA ((0:Int)<=(i64.wrap (b - 1))) (cA ((i64.wrap (b - 1))<(a.length:Int)) (m2 b (a.length:Int) (call (Z58.R ((aU.at a (toNat (i64.wrap (b - 1)))).an,(aU.at a (toNat b)))) fun v3=>(cond (!v3) (ret (b:Int)) (J (.p0 a (i64.wrap (b+1))))))))) (J (.p0 a (i64.wrap (b+1)))))) mV)
def start (J:Pt->aD)(x0:aq):aD:=J (.p0 x0 0)
def live:Nat->Live:=gL [(2,jC [0,3])]
def md (a0:List aa):Int:=(dY (S:=Unit) (β:=Int) (fun i1 y1 s3=>(cond ((i1:Int)==0) (cond (!(Z49.md (a0.getD 0 aa.zero))) (.inr (i1)) (cond ((i1:Int)>0) (cond (!(Z58.md ((a0.getD (toNat (i64.wrap (i1 - 1))) aa.zero).an) y1)) (.inr (i1)) (.inl ())) (.inl ()))) (cond ((i1:Int)>0) (cond (!(Z58.md ((a0.getD (toNat (i64.wrap (i1 - 1))) aa.zero).an) y1)) (.inr (i1)) (.inl ())) (.inl ())))) (fun s3=>((-1):Int)) 0 a0 ())
def gd (a0:List aa):Prop:=(bg (2^21) (fun y:aa=>aa.Sm (2^21) y) a0)
def R:=RR gd md
def aj {a0}(h:gd a0):R (a0.map aa.row)=some (md a0):=cQ h
def aM:=CN [pL 53] oI RT.dec R
def bn (a0)(H0:gd a0):∃n,start (iter step n) (a0.map aa.row)=ret (md a0):=by
 have Bh2:=bl H0
 refine ex_eq (cK (z:=aa.zero)) (dy fz ?_)
 refine bH (pt:=fun (i1:Nat) (s3:Unit)=>Pt.p0 (a0.map aa.row) (i1:Int)) (fun _ _=>True) (fun J i1 s3 h2 hih2=>?_) (fun s3 hih2=>?_) trivial
 ·simp only [step,SS]
  have:=(H0).1
  refine aP.yes dt (aP.bif (fun c4=>?_) (fun c4=>?_))
  ·refine aP.yes dt (cr (Z49.aj (bg.getD H0 (by omega))) ?_)
   refine aP.bif (fun c5=>aP.inr fz) (fun c5=>?_)
   refine aP.bif (fun c6=>?_) (fun c6=>?_)
   ·have dc6:=c6
    simp only [DC] at dc6
    refine aP.yes dt (aP.yes dt ?_)
    refine aP.yes bB (aP.yes (bQ h2) ?_)
    refine cr (Z58.aj ⟨(bg.getD H0 (by (simp (disch:=omega) only [wi];omega))).1,(bg.getD H0 h2)⟩) (aP.bif (fun c7=>aP.inr fz) (fun c7=>?_))
    refine aP.inl trivial ?_
    rw [aF h2 Bh2]
   ·refine aP.inl trivial ?_
    rw [aF h2 Bh2]
  ·refine aP.bif (fun c8=>?_) (fun c8=>?_)
   ·have dc8:=c8
    simp only [DC] at dc8
    refine aP.yes dt (aP.yes dt ?_)
    refine aP.yes bB (aP.yes (bQ h2) ?_)
    refine cr (Z58.aj ⟨(bg.getD H0 (by (simp (disch:=omega) only [wi];omega))).1,(bg.getD H0 h2)⟩) (aP.bif (fun c9=>aP.inr fz) (fun c9=>?_))
    refine aP.inl trivial ?_
    rw [aF h2 Bh2]
   ·refine aP.inl trivial ?_
    rw [aF h2 Bh2]
 ·simp only [step,SS]
  refine cL dn (⟨0,?_⟩)
  exact fz
def af:cj 224 aM:=L1 38 (fun _=>2) cM (fun _=>[]) live step start mix az bn (fc Z49.af Z58.af) Tryz.func224
end Z59
namespace Z60
def F (x0:aq):aD:=(call (Z11.R (x0.length,1,12)) fun v1=>(cond v1 (call (Z59.R x0) fun v2=>ret ((decide (v2<0)))) (ret false)))
def md (a0:List aa):Bool:=(cond (Z11.md a0.length 1 12) ((decide ((Z59.md a0)<0))) false)
def gd (a0:List aa):Prop:=(bg (2^21) (fun y:aa=>aa.Sm (2^21) y) a0)
def R:=RR gd md
def aj {a0}(h:gd a0):R (a0.map aa.row)=some (md a0):=cQ h
def aM:=CN [pL 53] oB RT.dec R
def bn (a0)(H0:gd a0):F (a0.map aa.row)=ret (md a0):=by
 unfold F md
 simp only [SS]
 refine ct (Z11.aj trivial) (bs (fun c1=>?_) (fun _=>rfl))
 exact ct (Z59.aj H0) fz
def af:cj 132 aM:=W1 11 F mix az bn (fc Z11.af Z59.af) Tryz.func132
def tr {a0:List aa}(h:md a0=true):1<=a0.length/\a0.length<=12:=by simp [md,Z11.md] at h;omega
def tK {l:List aa}(h:md l=true):∀i,i<l.length->Z36.md (l.getD i aa.zero).an=true:=by
 intro i hi
 have h1:Z59.md l<0:=by
  unfold md at h
  cases hc:Z11.md (l.length:Int) 1 12<;>rw [hc] at h
  ·cases h
  ·simpa using h
 unfold Z59.md at h1
 have h2:=uW (z:=aa.zero) (by
  intro i x s b h
  revert h
  simp only [Bool.cond_eq_ite]
  repeat' split
  all_goals (intro h;first | (cases h;rfl) | cases h)) h1 i hi
 by_cases h0:i=0
 ·subst h0
  cases hf:Z49.md (l.getD 0 aa.zero)
  ·rw [hf] at h2;cases h2
  ·unfold Z49.md at hf
   cases hh:Z36.md (l.getD 0 aa.zero).an
   ·rw [hh] at hf;cases hf
   ·rfl
 ·have e:((i:Int)==0)=false:=beq_eq_false_iff_ne.2 (by omega)
  have e2:decide ((i:Int)>0)=true:=by simpa using by omega
  simp only [e,e2,aR,aO] at h2
  cases hf:Z58.md ((l.getD (toNat (i64.wrap ((i:Int) - 1))) aa.zero).an) (l.getD i aa.zero)
  ·rw [hf] at h2;cases h2
  ·unfold Z58.md Z57.md at hf
   cases hh:Z36.md (l.getD i aa.zero).an
   ·rw [hh] at hf
    cases hp:Z36.md ((l.getD (toNat (i64.wrap ((i:Int) - 1))) aa.zero).an)<;>rw [hp] at hf<;>cases hf
   ·rfl
def Eh {l:List aa}(h:md l=true):∀i,i<l.length->(l.getD i aa.zero).an.aX=(l.getD 0 aa.zero).an.aX:=by
 have hl:=tr h
 have h1:Z59.md l<0:=by
  unfold md at h
  cases hc:Z11.md (l.length:Int) 1 12<;>rw [hc] at h
  ·cases h
  ·simpa using h
 unfold Z59.md at h1
 have h2:=uW (z:=aa.zero) (by
  intro i x s b h
  revert h
  simp only [Bool.cond_eq_ite]
  repeat' split
  all_goals (intro h;first | (cases h;rfl) | cases h)) h1
 intro i
 induction i with
 | zero=>intro _;rfl
 | succ i ih=>
  intro hi
  have h3:=h2 (i+1) hi
  have e:(((i+1:Nat):Int)==0)=false:=beq_eq_false_iff_ne.2 (by omega)
  have e2:decide (((i+1:Nat):Int)>0)=true:=by simpa using by omega
  have ei:toNat (i64.wrap (((i+1:Nat):Int) - 1))=i:=by simp (disch:=omega) only [wi];omega
  simp only [e,e2,aR,aO] at h3
  rw [ei] at h3
  cases hf:Z58.md ((l.getD i aa.zero).an) (l.getD (i+1) aa.zero)
  ·rw [hf] at h3;cases h3
  ·unfold Z58.md Z57.md at hf
   cases hz:((l.getD (i+1) aa.zero).an.aX != (l.getD i aa.zero).an.aX)
   ·rw [<-ih (by omega)];exact (by simpa using hz)
   ·rw [hz] at hf
    cases hp:Z36.md (l.getD i aa.zero).an<;>rw [hp] at hf
    ·cases hf
    ·cases hh:Z36.md (l.getD (i+1) aa.zero).an<;>rw [hh] at hf<;>cases hf
end Z60
namespace Z61
def F (x0:aq):aD:=(call (Z60.R x0) fun v1=>(cond (!v1) (ret (((⟨0,0,0,0,0,0,0,0,(⟨[],0⟩),(⟨[],0⟩),0,(⟨[],0⟩),false⟩),false):bN×Bool)) (cA ((0:Int)<=(i64.wrap (x0.length - 1))) (cA ((i64.wrap (x0.length - 1))<x0.length) (call (Z38.R ((aU.at x0 (toNat (i64.wrap (x0.length - 1)))).an)) fun v2=>ret ((v2,true):bN×Bool))))))
def md (a0:List aa):au×Bool:=(cond (!(Z60.md a0)) ((⟨0,0,0,0,0,0,0,0,(⟨[],0⟩),(⟨[],0⟩),0,(⟨[],0⟩),false⟩),false) (((a0.getD (toNat (i64.wrap (a0.length - 1))) aa.zero).an),true))
def gd (a0:List aa):Prop:=(bg (2^21) (fun y:aa=>aa.Sm (2^21) y) a0)
def R:=RR gd md
def aj {a0}(h:gd a0):R (a0.map aa.row)=some ((au.r (md a0).1),(md a0).2):=cQ h
def aM:=CN [pL 53] (.gW [(true,f50),(false,[fB])]) RT.dec R
def bn (a0)(H0:gd a0):F (a0.map aa.row)=ret ((au.r (md a0).1),(md a0).2):=by
 unfold F md
 simp only [SS]
 refine ct (Z60.aj H0) (bM (fun b:au×Bool=>ret (((au.r b.1),b.2):bN×Bool)) (fun c1=>fz) (fun c1=>?_))
 have tc1:=Z60.tr (by simpa using c1)
 refine aG dt (aG dt ?_)
 exact ct (Z38.aj (bg.getD H0 (by (simp (disch:=omega) only [wi];omega))).1) fz
def af:cj 36 aM:=W1 16 F mix az bn (fc Z60.af Z38.af) Tryz.func36
def fo {a0:List aa}(hg:gd a0):au.Sm (2^21) ((md a0).1):=by
 unfold gd at hg;unfold md
 cases h:Z60.md a0
 ·exact ⟨bg.nil,bg.nil,bg.nil⟩
 ·have:=Z60.tr h
  exact (bg.getD hg (by simp (disch:=omega) only [Go.IntWalk.i64_in];omega)).1
def head {l:List aa}(h:(md l).2=true):Z60.md l=true/\(md l).1=(l.getD (l.length - 1) aa.zero).an/\Z36.md (md l).1=true:=by
 unfold md at h ⊢
 cases hc:Z60.md l
 ·rw [hc] at h;cases h
 ·have hl:=Z60.tr hc
  have hw:toNat (i64.wrap ((l.length:Int) - 1))=l.length - 1:=by
   rw [Go.IntWalk.i64_in _ (by omega)];omega
  simp only [Bool.not_true,aR,hw]
  exact ⟨trivial,trivial,Z60.tK hc _ (by omega)⟩
end Z61
namespace Z62
def F (x0:Int)(x1:aq):aD:=(call (Z15.R x1) fun v1=>(cond v1 (call (Z32.R x1) fun v2=>ret ((v2==x0))) (ret false)))
def md (a0:Int)(a1:List ah):Bool:=(cond (Z15.md a1) (((Z32.md a1)==a0)) false)
def gd (a0:Int)(a1:List ah):Prop:=(bg (2^21) (fun y:ah=>ah.Sm (2^21) y) a1)
def R:=cI gd md
def aj {a0 a1}(h:gd a0 a1):R (a0,(a1.map ah.row))=some (md a0 a1):=cH h
def aM:=CN [pI,pL 62] oB RT.dec R
def bn (a0)(a1)(H1:gd a0 a1):F a0 (a1.map ah.row)=ret (md a0 a1):=by
 refine ct (Z15.aj H1) (bs (fun c1=>?_) (fun _=>rfl))
 exact ct (Z32.aj H1) fz
def af:cj 304 aM:=W2 13 F mix az bn (fc Z15.af Z32.af) Tryz.func304
end Z62
namespace Z63
def F (x0:bU):aD:=(call (Z61.R x0.aC) fun v1=>(cond v1.2 (cond (v1.1.bZ==x0.bI.length) (call (Z62.R (v1.1.dx,x0.bI)) fun v2=>ret v2) (ret false)) (ret false)))
def md (a0:aH):Bool:=(cond ((Z61.md a0.aC).2) (cond ((Z61.md a0.aC).1.bZ==a0.bI.length) ((Z62.md ((Z61.md a0.aC).1.dx) a0.bI)) false) false)
def gd (a0:aH):Prop:=(aH.Sm (2^21) a0)
def R:=RR gd md
def aj {a0}(h:gd a0):R (aH.r a0)=some (md a0):=cQ h
def aM:=CN [.agg tc] oB RT.dec R
def bn (a0)(H0:gd a0):F (aH.r a0)=ret (md a0):=by
 refine ct (Z61.aj H0.1) ?_
 simp only [SS]
 refine bs (fun c1=>?_) (fun _=>rfl)
 refine bs (fun c2=>?_) (fun _=>rfl)
 exact ct (Z62.aj H0.2) fz
def af:cj 231 aM:=W1 27 F mix az bn (fc Z61.af Z62.af) Tryz.func231
end Z63
namespace Z64
def F (x0:bU):aD:=(call (Z61.R x0.aC) fun v1=>(call (Z63.R x0) fun v2=>(cond (!v2) mV (ret v1.1.aX))))
def md (a0:aH):Int:=(cond (!(Z63.md a0)) ((-1):Int) ((Z61.md a0.aC).1.aX))
def gd (a0:aH):Prop:=(aH.Sm (2^21) a0)
def R:=RR gd md
def aj {a0}(h:gd a0):R (aH.r a0)=some (md a0):=cQ h
def aM:=CN [.agg tc] oI RT.dec R
def bn (a0)(H0:gd a0):F (aH.r a0)=ret (md a0):=by
 refine ct (Z61.aj H0.1) (ct (Z63.aj H0) ?_)
 refine bs (fun _=>rfl) (fun c1=>?_)
 exact fz
def af:cj 144 aM:=W1 16 F mix az bn (fc Z61.af Z63.af) Tryz.func144
end Z64
namespace Z65
def F (x0:av)(x1:Int):aD:=ret ((⟨x0,2,x1,[]⟩):bk)
def md (a0:av)(a1:Int):ah:=(⟨a0,2,a1,[]⟩)
def gd (a0:av)(a1:Int):Prop:=True
def R:=cI gd md
def aj {a0 a1}(h:gd a0 a1):R (a0,a1)=some (ah.r (md a0 a1)):=cH h
def aM:=CN [pS,pI] (.agg f62) RT.dec R
def bn (a0)(a1)(hg:gd a0 a1):F a0 a1=ret (ah.r (md a0 a1)):=fz
def af:cj 274 aM:=W2 8 F mix az bn .nil Tryz.func274
end Z65
namespace Z66
def F (x0:av)(x1:Int)(x2:aq):aD:=(call (Z9.R x2) fun v1=>ret ((⟨x0,3,x1,v1⟩):bk))
def md (a0:av)(a1:Int)(a2:List av):ah:=(⟨a0,3,a1,a2⟩)
def gd (a0:av)(a1:Int)(a2:List av):Prop:=(bg (2^21) (fun y:av=>y.size<=(2^21)) a2)
def R:=lP gd md
def aj {a0 a1 a2}(h:gd a0 a1 a2):R (a0,a1,(a2.map dL))=some (ah.r (md a0 a1 a2)):=mq h
def aM:=CN [pS,pI,pL 9] (.agg f62) RT.dec R
def bn (a0)(a1)(a2)(H2:gd a0 a1 a2):F a0 a1 (a2.map dL)=ret (ah.r (md a0 a1 a2)):=ct (Z9.aj H2) fz
def af:cj 275 aM:=W3 12 F mix az bn (cO Z9.af) Tryz.func275
end Z66
namespace Z67
def F (x0:aq)(x1 x2 x3:Int):aD:=(call (Z4.R (x0,x1,x2,x3)) fun v1=>ret ((Hl.mk,v1.2.1,v1.2.2.1,(v1.2.2.2==0)):Hl×Int×Int×Bool))
abbrev eg:List K:=[.sl 5,aE,aE]
def pats:List (Option fF):=[none,some (.rd (.int .i64))]
def res:RP:=.one (.rd (.bool))
abbrev E:Env:={ T:=assoc mC,G:=cZ [],nt:=9,M:=ff [],np:=(nC eg),mt:=false,I:=gy [(139,Z4.ic (nC eg))] }
def run_eq (n:Nat)(ls:List L):eY E (fun _=>[]) Tryz.f142 (.cur eg res.parts) n (iG eg pats ls)=F (eU ls) (cF 1 ls) (cF 2 ls) (cF 3 ls):=by kernel_rfl
def gd (x0:aq)(x1 x2 x3:Int):Prop:=CI x0 x1
def post (x0:aq)(x1 x2 x3:Int)(y:Hl×Int×Int×Bool):Prop:=CI x0 y.2.1
def wp (x0:aq)(x1 x2 x3:Int)(hg:gd x0 x1 x2 x3):Wp (F x0 x1 x2 x3) (post x0 x1 x2 x3):=by
 unfold F
 exact Z4.eJ hg (fun v hv=>wp_ret hv.1)
def R:(aq×Int×Int×Int)->Option (Hl×Int×Int×Bool):=RQ (fun _ x=>F x.1 x.2.1 x.2.2.1 x.2.2.2) (fun x=>post x.1 x.2.1 x.2.2.1 x.2.2.2)
def eJ {x0:aq}{x1 x2 x3:Int}{γ:Type}[RT γ]{k:(Hl×Int×Int×Bool)->aD}{Q:γ->Prop}(hg:gd x0 x1 x2 x3)(hk:∀y,post x0 x1 x2 x3 y->Wp (k y) Q):Wp (call (R (x0,x1,x2,x3)) k) Q:=gq ⟨0,wp x0 x1 x2 x3 hg⟩ hk
def acc (ls:List L):aq×Int×Int×Int:=((eU ls),(cF 1 ls),(cF 2 ls),(cF 3 ls))
def aM:jO:=CC eg pats res acc R
def af:gD Tryz.prog Ev 142 aM:=VC (live:=(fun _=>[])) (mt:=false) mix az .nil .nil (.cons (Z4.bR (nC eg)) .nil) Tryz.func142 (by kernel_rfl) run_eq
def ic (_:Nat):gA:=kg Ev aM
def bR (n:Nat):dX Tryz.prog Ev n 142 (ic n):=eR af
end Z67
namespace Z68
abbrev E (n:Nat):Env:={ T:=assoc mC,G:=cZ [(298,Z36.aM)],nt:=9,M:=ff [],np:=n,I:=gy [] }
def ic (n:Nat):gA:=inl (E n) Tryz.f389
def bR (n:Nat):dX Tryz.prog Ev n 389 (ic n):=yO (mt:=false) mix az (cO Z36.af) .nil .nil Tryz.func389 (by kernel_rfl)
end Z68
namespace Z69
def F (x0:bN)(x1 x2 x3:Int):aD:=(call (Z36.R x0) fun v1=>(cond (!v1) (ret (((⟨0,0,0,0,0,0,0,0,(⟨[],0⟩),(⟨[],0⟩),0,(⟨[],0⟩),false⟩),false):bN×Bool)) (call (Z11.R (x2,x0.cg,100000)) fun v2=>(cond (!v2) (ret (((⟨0,0,0,0,0,0,0,0,(⟨[],0⟩),(⟨[],0⟩),0,(⟨[],0⟩),false⟩),false):bN×Bool)) (call (Z11.R (x3,0,200)) fun v3=>(cond (!v3) (ret (((⟨0,0,0,0,0,0,0,0,(⟨[],0⟩),(⟨[],0⟩),0,(⟨[],0⟩),false⟩),false):bN×Bool)) (call (Z38.R x0) fun v4=>(call (Z50.R x0) fun v5=>(call (Z36.R (⟨v4.aX,(i64.wrap (x0.cw+1)),x1,x2,(i64.wrap (x2+x3)),v4.bZ,v4.dx,v5,v4.bV,v4.bG,v4.cW,v4.bD,v4.bh⟩)) fun v6=>(cond (!v6) (ret (((⟨0,0,0,0,0,0,0,0,(⟨[],0⟩),(⟨[],0⟩),0,(⟨[],0⟩),false⟩),false):bN×Bool)) (ret (((⟨v4.aX,(i64.wrap (x0.cw+1)),x1,x2,(i64.wrap (x2+x3)),v4.bZ,v4.dx,v5,v4.bV,v4.bG,v4.cW,v4.bD,v4.bh⟩),true):bN×Bool))))))))))))
def pats:List fF:=[.agg [aE,aE,aE,aE,aE,aE,aE,aE,.sl 3,aE,.sl 3,aE,aE,.sl 3,aE,.bool],.rd (.int .i64),.rd (.int .i64),.rd (.int .i64)]
def res:RP:=.gW [(true,[.rd (.int .i64),.rd (.int .i64),.rd (.int .i64),.rd (.int .i64),.rd (.int .i64),.rd (.int .i64),.rd (.int .i64),.rd (.int .i64),.fr 3,.rd (.int .i64),.fr 3,.rd (.int .i64),.rd (.int .i64),.fr 3,.rd (.int .i64),.rd (.bool)]),(false,[.rd (.bool)])]
abbrev E:Env:={ T:=assoc mC,G:=cZ [(298,Z36.aM),(190,Z11.aM),(157,Z38.aM),(369,Z50.aM)],nt:=48,M:=ff [],I:=gy [(389,Z68.ic 0)] }
def run_eq (n:Nat)(ls:List L):eY E (fun _=>[]) Tryz.f388 res n (dJ pats ls)=F (bN.dec ls) (cF 16 ls) (cF 17 ls) (cF 18 ls):=by kernel_rfl
def md (a0:au)(a1 a2 a3:Int):au×Bool:=(cond (!(Z36.md a0)) ((⟨0,0,0,0,0,0,0,0,(⟨[],0⟩),(⟨[],0⟩),0,(⟨[],0⟩),false⟩),false) (cond (!(Z11.md a2 a0.cg 100000)) ((⟨0,0,0,0,0,0,0,0,(⟨[],0⟩),(⟨[],0⟩),0,(⟨[],0⟩),false⟩),false) (cond (!(Z11.md a3 0 200)) ((⟨0,0,0,0,0,0,0,0,(⟨[],0⟩),(⟨[],0⟩),0,(⟨[],0⟩),false⟩),false) (cond (!(Z36.md (⟨a0.aX,(i64.wrap (a0.cw+1)),a1,a2,(i64.wrap (a2+a3)),a0.bZ,a0.dx,(Z50.md a0),a0.bV,a0.bG,a0.cW,a0.bD,a0.bh⟩))) ((⟨0,0,0,0,0,0,0,0,(⟨[],0⟩),(⟨[],0⟩),0,(⟨[],0⟩),false⟩),false) ((⟨a0.aX,(i64.wrap (a0.cw+1)),a1,a2,(i64.wrap (a2+a3)),a0.bZ,a0.dx,(Z50.md a0),a0.bV,a0.bG,a0.cW,a0.bD,a0.bh⟩),true)))))
def gd (a0:au)(a1 a2 a3:Int):Prop:=(au.Sm (2^21) a0)
def acc (ls:List L):bN×Int×Int×Int:=((bN.dec ls),(cF 16 ls),(cF 17 ls),(cF 18 ls))
def R:(bN×Int×Int×Int)->Option (bN×Bool):=tQ gd md
def aj {a0 a1 a2 a3}(h:gd a0 a1 a2 a3):R ((au.r a0),a1,a2,a3)=some ((au.r (md a0 a1 a2 a3).1),(md a0 a1 a2 a3).2):=so h
def aM:gj:=CN pats res acc R
def bn (a0:au)(a1 a2 a3:Int)(H0:gd a0 a1 a2 a3):F (au.r a0) a1 a2 a3=ret (((au.r (md a0 a1 a2 a3).1),(md a0 a1 a2 a3).2):bN×Bool):=by
 refine ct (Z36.aj H0) (bM (fun b:au×Bool=>ret (((au.r b.1),b.2):bN×Bool)) (fun c1=>fz) (fun c1=>?_))
 refine ct (Z11.aj trivial) (bM (fun b:au×Bool=>ret (((au.r b.1),b.2):bN×Bool)) (fun c2=>fz) (fun c2=>?_))
 refine ct (Z11.aj trivial) (bM (fun b:au×Bool=>ret (((au.r b.1),b.2):bN×Bool)) (fun c3=>fz) (fun c3=>?_))
 refine ct (Z38.aj H0) (ct (Z50.aj H0) ?_)
 exact ct (Z36.aj (a0:=(⟨a0.aX,(i64.wrap (a0.cw+1)),a1,a2,(i64.wrap (a2+a3)),a0.bZ,a0.dx,(Z50.md a0),a0.bV,a0.bG,a0.cW,a0.bD,a0.bh⟩:au)) ⟨H0.1,H0.2.1,H0.2.2⟩) (bM (fun b:au×Bool=>ret (((au.r b.1),b.2):bN×Bool)) (fun c4=>fz) (fun c4=>fz))
def af:cj 388 aM:=VI (mt:=false) (run:=fun _ x=>F x.1 x.2.1 x.2.2.1 x.2.2.2) mix az (nP Z36.af Z11.af Z38.af Z50.af) .nil (.cons (Z68.bR 0) .nil) Tryz.func388 (by kernel_rfl) run_eq (fun _ a _ _ hg=>⟨0,bn a.1 a.2.1 a.2.2.1 a.2.2.2 hg⟩)
def fo {a0:au}{a1 a2 a3:Int}(hg:gd a0 a1 a2 a3):au.Sm (2^21) ((md a0 a1 a2 a3).1):=by
 unfold md
 simp only [Bool.cond_eq_ite]
 repeat' split
 all_goals first | exact ⟨bg.nil,bg.nil,bg.nil⟩ | exact ⟨hg.1,hg.2.1,hg.2.2⟩
end Z69
namespace Z70
def F (x0:bN)(x1:aq)(x2 x3:Int):aD:=(call (Z69.R (x0,1,x2,x3)) fun v1=>(cond (!v1.2) (ret (((⟨0,0,0,0,0,0,0,0,(⟨[],0⟩),(⟨[],0⟩),0,(⟨[],0⟩),false⟩),false):bN×Bool)) (call (Z15.R x1) fun v2=>(cond (!v2) (ret (((⟨0,0,0,0,0,0,0,0,(⟨[],0⟩),(⟨[],0⟩),0,(⟨[],0⟩),false⟩),false):bN×Bool)) (call (Z32.R x1) fun v3=>(call (Z36.R (⟨v1.1.aX,v1.1.cw,v1.1.bt,v1.1.cg,v1.1.cm,x1.length,v3,v1.1.ec,v1.1.bV,v1.1.bG,v1.1.cW,v1.1.bD,v1.1.bh⟩)) fun v4=>(cond (!v4) (ret (((⟨0,0,0,0,0,0,0,0,(⟨[],0⟩),(⟨[],0⟩),0,(⟨[],0⟩),false⟩),false):bN×Bool)) (ret (((⟨v1.1.aX,v1.1.cw,v1.1.bt,v1.1.cg,v1.1.cm,x1.length,v3,v1.1.ec,v1.1.bV,v1.1.bG,v1.1.cW,v1.1.bD,v1.1.bh⟩),true):bN×Bool)))))))))
def pats:List fF:=[.agg [aE,aE,aE,aE,aE,aE,aE,aE,.sl 3,aE,.sl 3,aE,aE,.sl 3,aE,.bool],.rd (.sl 62),.rd (.int .i64),.rd (.int .i64)]
def res:RP:=.gW [(true,[.rd (.int .i64),.rd (.int .i64),.rd (.int .i64),.rd (.int .i64),.rd (.int .i64),.rd (.int .i64),.rd (.int .i64),.rd (.int .i64),.fr 3,.rd (.int .i64),.fr 3,.rd (.int .i64),.rd (.int .i64),.fr 3,.rd (.int .i64),.rd (.bool)]),(false,[.rd (.bool)])]
abbrev E:Env:={ T:=assoc mC,G:=cZ [(388,Z69.aM),(307,Z15.aM),(320,Z32.aM)],nt:=37,M:=ff [],I:=gy [(389,Z68.ic 0)] }
def run_eq (n:Nat)(ls:List L):eY E (fun _=>[]) Tryz.f330 res n (dJ pats ls)=F (bN.dec ls) (fP 16 ls) (cF 17 ls) (cF 18 ls):=by kernel_rfl
def md (a0:au)(a1:List ah)(a2 a3:Int):au×Bool:=(cond (!(Z69.md a0 1 a2 a3).2) ((⟨0,0,0,0,0,0,0,0,(⟨[],0⟩),(⟨[],0⟩),0,(⟨[],0⟩),false⟩),false) (cond (!(Z15.md a1)) ((⟨0,0,0,0,0,0,0,0,(⟨[],0⟩),(⟨[],0⟩),0,(⟨[],0⟩),false⟩),false) (cond (!(Z36.md (⟨(Z69.md a0 1 a2 a3).1.aX,(Z69.md a0 1 a2 a3).1.cw,(Z69.md a0 1 a2 a3).1.bt,(Z69.md a0 1 a2 a3).1.cg,(Z69.md a0 1 a2 a3).1.cm,a1.length,(Z32.md a1),(Z69.md a0 1 a2 a3).1.ec,(Z69.md a0 1 a2 a3).1.bV,(Z69.md a0 1 a2 a3).1.bG,(Z69.md a0 1 a2 a3).1.cW,(Z69.md a0 1 a2 a3).1.bD,(Z69.md a0 1 a2 a3).1.bh⟩))) ((⟨0,0,0,0,0,0,0,0,(⟨[],0⟩),(⟨[],0⟩),0,(⟨[],0⟩),false⟩),false) ((⟨(Z69.md a0 1 a2 a3).1.aX,(Z69.md a0 1 a2 a3).1.cw,(Z69.md a0 1 a2 a3).1.bt,(Z69.md a0 1 a2 a3).1.cg,(Z69.md a0 1 a2 a3).1.cm,a1.length,(Z32.md a1),(Z69.md a0 1 a2 a3).1.ec,(Z69.md a0 1 a2 a3).1.bV,(Z69.md a0 1 a2 a3).1.bG,(Z69.md a0 1 a2 a3).1.cW,(Z69.md a0 1 a2 a3).1.bD,(Z69.md a0 1 a2 a3).1.bh⟩),true))))
def gd (a0:au)(a1:List ah)(a2 a3:Int):Prop:=(au.Sm (2^21) a0)/\(bg (2^21) (fun y:ah=>ah.Sm (2^21) y) a1)
def acc (ls:List L):bN×aq×Int×Int:=((bN.dec ls),(fP 16 ls),(cF 17 ls),(cF 18 ls))
def R:(bN×aq×Int×Int)->Option (bN×Bool):=tQ gd md
def aj {a0 a1 a2 a3}(h:gd a0 a1 a2 a3):R ((au.r a0),(a1.map ah.row),a2,a3)=some ((au.r (md a0 a1 a2 a3).1),(md a0 a1 a2 a3).2):=so h
def aM:gj:=CN pats res acc R
def bn (a0:au)(a1:List ah)(a2 a3:Int)(hg:gd a0 a1 a2 a3):F (au.r a0) (a1.map ah.row) a2 a3=ret (((au.r (md a0 a1 a2 a3).1),(md a0 a1 a2 a3).2):bN×Bool):=by
 obtain ⟨H0,H1⟩:=hg
 refine ct (Z69.aj H0) ?_
 simp only [SS]
 refine bM (fun b:au×Bool=>ret (((au.r b.1),b.2):bN×Bool)) (fun c1=>fz) (fun c1=>?_)
 refine ct (Z15.aj H1) (bM (fun b:au×Bool=>ret (((au.r b.1),b.2):bN×Bool)) (fun c2=>fz) (fun c2=>?_))
 refine ct (Z32.aj H1) ?_
 have h2:=Z36.aj (a0:=(⟨(Z69.md a0 1 a2 a3).1.aX,(Z69.md a0 1 a2 a3).1.cw,(Z69.md a0 1 a2 a3).1.bt,(Z69.md a0 1 a2 a3).1.cg,(Z69.md a0 1 a2 a3).1.cm,(a1.length:Int),(Z32.md a1),(Z69.md a0 1 a2 a3).1.ec,(Z69.md a0 1 a2 a3).1.bV,(Z69.md a0 1 a2 a3).1.bG,(Z69.md a0 1 a2 a3).1.cW,(Z69.md a0 1 a2 a3).1.bD,(Z69.md a0 1 a2 a3).1.bh⟩:au)) ⟨(Z69.fo H0).1,(Z69.fo H0).2.1,(Z69.fo H0).2.2⟩
 simp only [au.r] at h2 ⊢
 refine ct h2 (bM (fun b:au×Bool=>ret (((au.r b.1),b.2):bN×Bool)) (fun c3=>fz) (fun c3=>?_))
 simp only [au.r]
def af:cj 330 aM:=VI (mt:=false) (run:=fun _ x=>F x.1 x.2.1 x.2.2.1 x.2.2.2) mix az (jB Z69.af Z15.af Z32.af) .nil (.cons (Z68.bR 0) .nil) Tryz.func330 (by kernel_rfl) run_eq (fun _ a _ _ hg=>⟨0,bn a.1 a.2.1 a.2.2.1 a.2.2.2 hg⟩)
def fo {a0:au}{a1:List ah}{a2 a3:Int}(hg:gd a0 a1 a2 a3):au.Sm (2^21) ((md a0 a1 a2 a3).1):=by
 have h1:=Z69.fo (a1:=1) (a2:=a2) (a3:=a3) hg.1
 unfold md
 simp only [Bool.cond_eq_ite]
 repeat' split
 all_goals first | exact ⟨bg.nil,bg.nil,bg.nil⟩ | exact ⟨h1.1,h1.2.1,h1.2.2⟩
end Z70
namespace Z71
def F (x0:aU):aD:=(call (Z38.R x0.an) fun v1=>(cA (eK (x0.dR.length*16)) (ret ((⟨v1,x0.dR⟩):aU))))
def md (a0:aa):aa:=a0
def gd (a0:aa):Prop:=(aa.Sm (2^21) a0)
def R:=RR gd md
def aj {a0}(h:gd a0):R (aa.r a0)=some (aa.r a0):=cQ h
def aM:=CN [.agg wh] (.agg f53) RT.dec R
def bn (a0)(H0:gd a0):F (aa.r a0)=ret (aa.r (md a0)):=by
 refine ct (Z38.aj H0.1) ?_
 simp only [SS]
 exact aG (have:=(H0.2).1;lm) fz
def af:cj 215 aM:=W1 11 F mix az bn (cO Z38.af) Tryz.func215
end Z71
namespace Z72
inductive Pt where
 | p0 (a:aq) (b:Int) (c:aq)
def cM:Pt->List V
 | .p0 a b c=>[.sl none 53 a,.own 0,.int .i64 b]
def dQ:Pt->List aK
 | .p0 a b c=>[.row 53 c]
def step (J:Pt->aD):Pt->aD
 | .p0 a b c=>(cond (b<(a.length:Int)) (m2 b (a.length:Int) (call (Z71.R (aU.at a (toNat b))) fun v1=>(cA (eK (((c.length:Int)+1)*200)) (J (.p0 a (i64.wrap (b+1)) (c++[(aU.enc v1)])))))) (ret (c:aq)))
def start (J:Pt->aD)(x0:aq):aD:=J (.p0 x0 0 [])
def live:Nat->Live:=gL [(3,[(0,none),(3,some 53),(4,none)])]
def md (a0:List aa):List aa:=a0
def gd (a0:List aa):Prop:=(bg (2^21) (fun y:aa=>aa.Sm (2^21) y) a0)
def R:=RR gd md
def aj {a0}(h:gd a0):R (a0.map aa.row)=some (a0.map aa.row):=cQ h
def aM:=CN [pL 53] (oL 53) RT.dec R
def bn (a0)(H0:gd a0):∃n,start (iter step n) (a0.map aa.row)=ret ((md a0).map aa.row):=by
 have Bh2:=bl H0
 refine ex_eq (out:=(fun b:List aa=>ret ((b.map aa.row):aq))) (gZ (xs:=a0) (z:=aa.zero) (t:=fun s3:List aa=>s3)) (dy fz ?_)
 refine bH (pt:=fun (i1:Nat) (s3:List aa)=>Pt.p0 (a0.map aa.row) (i1:Int) (s3.map aa.row)) (s:=([]:List aa)) (out:=(fun b:List aa=>ret ((b.map aa.row):aq))) (fun (i1:Nat) (s3:List aa)=>s3.length<=([]:List Int).length+1*i1) (fun J i1 s3 h2 hih2=>?_) (fun s3 hih2=>?_) (by simp)
 ·simp only [step,SS]
  have gr_:=hih2
  simp only [LN] at gr_
  have:=(H0).1
  refine aP.yes dt (aP.yes bB ?_)
  refine aP.yes (bQ h2) (cr (Z71.aj (bg.getD H0 h2)) ?_)
  refine aP.yes lm ?_
  refine aP.inl (by
    (simp;omega)) ?_
  rw [aF h2 Bh2]
  exact fz
 ·simp only [step,SS]
  refine cL dn (⟨0,?_⟩)
  exact fz
def af:cj 121 aM:=L1 21 (fun _=>3) cM dQ live step start mix az bn (cO Z71.af) Tryz.func121
end Z72
namespace Z73
def F (x0:bU):aD:=(call (Z72.R x0.aC) fun v1=>(call (Z16.R x0.bI) fun v2=>ret ((⟨v1,v2⟩):bU)))
def md (a0:aH):aH:=a0
def gd (a0:aH):Prop:=(aH.Sm (2^21) a0)
def R:=RR gd md
def aj {a0}(h:gd a0):R (aH.r a0)=some (aH.r a0):=cQ h
def aM:=CN [.agg tc] (.agg f188) RT.dec R
def bn (a0)(H0:gd a0):F (aH.r a0)=ret (aH.r (md a0)):=by
 refine ct (Z72.aj H0.1) (ct (Z16.aj H0.2) ?_)
 exact fz
def af:cj 328 aM:=W1 10 F mix az bn (fc Z72.af Z16.af) Tryz.func328
end Z73
namespace Z74
def F (x0 x1:bN)(x2:aq):aD:=(cond (x1.bt==2) (call (Z44.R (x2,x0.bG,x1)) fun v1=>ret v1) (cond (x1.bt==3) (call (Z44.R (x2,x0.bD,x1)) fun v2=>ret v2) (call (Z44.R (x2,x0.bV,x1)) fun v3=>ret v3)))
def md (a0 a1:au)(a2:List Int):aa:=(cond (a1.bt==2) (Z44.md a2 a0.bG a1) (cond (a1.bt==3) (Z44.md a2 a0.bD a1) (Z44.md a2 a0.bV a1)))
def gd (a0 a1:au)(a2:List Int):Prop:=(au.Sm (2^21) a0)/\(au.Sm (2^21) a1)/\(bg (2^38) (fun y:Int=>True) a2)
def R:=lP gd md
def aj {a0 a1 a2}(h:gd a0 a1 a2):R ((au.r a0),(au.r a1),(a2.map aV))=some (aa.r (md a0 a1 a2)):=mq h
def aM:=CN [.agg lu,.agg lu,pL 3] (.agg f53) RT.dec R
def bn (a0)(a1)(a2)(hg:gd a0 a1 a2):F (au.r a0) (au.r a1) (a2.map aV)=ret (aa.r (md a0 a1 a2)):=by
 obtain ⟨H0,H1,H2⟩:=hg
 refine bo (fun c1=>ct (Z44.aj ⟨H2,H0.2.1,H1⟩) fz) (fun c1=>?_)
 exact bo (fun c2=>ct (Z44.aj ⟨H2,H0.2.2,H1⟩) fz) (fun c2=>ct (Z44.aj ⟨H2,H0.1,H1⟩) fz)
def af:cj 332 aM:=W3 28 F mix az bn (cO Z44.af) Tryz.func332
def fo {a0 a1:au}{a2:List Int}(hg:gd a0 a1 a2):aa.Sm (2^21) (md a0 a1 a2):=by
 unfold gd at hg;unfold md
 simp only [Bool.cond_eq_ite]
 repeat' split
 ·exact Z44.fo ⟨hg.2.2,hg.1.2.1,hg.2.1⟩
 ·exact Z44.fo ⟨hg.2.2,hg.1.2.2,hg.2.1⟩
 ·exact Z44.fo ⟨hg.2.2,hg.1.1,hg.2.1⟩
end Z74
namespace Z75
def F (x0:aq)(x1:aU):aD:=(call (Z61.R x0) fun v1=>(cond (!v1.2) (call (Z72.R x0) fun v2=>ret ((v2,2):aq×Int)) (cond ((x0.length:Int)>=12) (call (Z72.R x0) fun v3=>ret ((v3,2):aq×Int)) (call (Z57.R (v1.1,x1)) fun v4=>(cond (v4 != 1) (call (Z72.R x0) fun v5=>ret ((v5,v4):aq×Int)) (call (Z72.R x0) fun v6=>(call (Z71.R x1) fun v7=>(cA (eK ((v6.length+1)*200)) (ret (((v6++[(aU.enc v7)]),1):aq×Int))))))))))
def md (a0:List aa)(a1:aa):List aa×Int:=(cond (!(Z61.md a0).2) (a0,2) (cond ((a0.length:Int)>=12) (a0,2) (cond ((Z57.md ((Z61.md a0).1) a1) != 1) (a0,(Z57.md ((Z61.md a0).1) a1)) ((a0++[a1]),1))))
def gd (a0:List aa)(a1:aa):Prop:=(bg (2^21) (fun y:aa=>aa.Sm (2^21) y) a0)/\(aa.Sm (2^21) a1)
def R:=cI gd md
def aj {a0 a1}(h:gd a0 a1):R ((a0.map aa.row),(aa.r a1))=some (((md a0 a1).1.map aa.row),(md a0 a1).2):=cH h
def aM:=CN [pL 53,.agg wh] (.gW [(false,[.fr 53]),(false,[fI])]) RT.dec R
def bn (a0)(a1)(hg:gd a0 a1):F (a0.map aa.row) (aa.r a1)=ret (((md a0 a1).1.map aa.row),(md a0 a1).2):=by
 obtain ⟨H0,H1⟩:=hg
 refine ct (Z61.aj H0) ?_
 simp only [SS]
 refine bM (fun b:List aa×Int=>ret (((b.1.map aa.row),b.2):aq×Int)) (fun c1=>ct (Z72.aj H0) fz) (fun c1=>?_)
 refine bM (fun b:List aa×Int=>ret (((b.1.map aa.row),b.2):aq×Int)) (fun c2=>ct (Z72.aj H0) fz) (fun c2=>?_)
 have dc2:=c2
 simp only [DC] at dc2
 refine ct (Z57.aj ⟨(Z61.fo H0),H1⟩) (bM (fun b:List aa×Int=>ret (((b.1.map aa.row),b.2):aq×Int)) (fun c3=>ct (Z72.aj H0) fz) (fun c3=>?_))
 refine ct (Z72.aj H0) (ct (Z71.aj H1) ?_)
 exact aG lm fz
def af:cj 331 aM:=W2 37 F mix az bn (nP Z61.af Z72.af Z57.af Z71.af) Tryz.func331
def fo {a0:List aa}{a1:aa}(hg:gd a0 a1):bg (2^21) (fun y:aa=>aa.Sm (2^21) y) ((md a0 a1).1):=by
 unfold gd at hg;unfold md
 simp only [Bool.cond_eq_ite]
 repeat' split
 all_goals first | exact hg.1 | skip
 rename_i h1 h2 h3
 have h2:¬((a0.length:Int)>=12):=by simpa using h2
 exact ⟨by simp;omega,fun x hx=>(List.mem_append.1 hx).elim (hg.1.2 x) (fun h=>by simp at h;subst h;exact hg.2)⟩
def DX (a0:List aa)(a1:aa):(md a0 a1).1=a0∨(md a0 a1).1=a0++[a1]:=by
 unfold md
 cases (!(Z61.md a0).2)<;>simp only [aO,aR]
 ·cases decide ((a0.length:Int)>=12)<;>simp only [aO,aR]
  ·cases (Z57.md ((Z61.md a0).1) a1) != 1<;>simp only [aO,aR]
   ·simp
   ·simp
  ·simp
 ·simp
def CG (a0:List aa)(a1:aa):a0.length<=(md a0 a1).1.length:=by
 rcases DX a0 a1 with h | h<;>rw [h]<;>simp
end Z75
namespace Z76
def F (x0:bU)(x1:aq)(x2:bN)(x3:aq):aD:=(call (Z61.R x0.aC) fun v1=>(call (Z63.R x0) fun v2=>(cond (!v2) (call (Z73.R x0) fun v3=>ret ((v3,2):bU×Int)) (call (Z74.R (v1.1,x2,x1)) fun v4=>(call (Z75.R (x0.aC,v4)) fun v5=>(cond (v5.2 != 1) (call (Z73.R x0) fun v6=>ret ((v6,v5.2):bU×Int)) (call (Z16.R x3) fun v7=>(call (Z63.R (⟨v5.1,v7⟩)) fun v8=>(cond (!v8) (call (Z73.R x0) fun v9=>ret ((v9,2):bU×Int)) (ret (((⟨v5.1,v7⟩),1):bU×Int)))))))))))
def md (a0:aH)(a1:List Int)(a2:au)(a3:List ah):aH×Int:=(cond (!(Z63.md a0)) (a0,2) (cond ((Z75.md a0.aC (Z74.md ((Z61.md a0.aC).1) a2 a1)).2 != 1) (a0,(Z75.md a0.aC (Z74.md ((Z61.md a0.aC).1) a2 a1)).2) (cond (!(Z63.md (⟨(Z75.md a0.aC (Z74.md ((Z61.md a0.aC).1) a2 a1)).1,a3⟩))) (a0,2) ((⟨(Z75.md a0.aC (Z74.md ((Z61.md a0.aC).1) a2 a1)).1,a3⟩),1))))
def gd (a0:aH)(a1:List Int)(a2:au)(a3:List ah):Prop:=(aH.Sm (2^21) a0)/\(bg (2^38) (fun y:Int=>True) a1)/\(au.Sm (2^21) a2)/\(bg (2^21) (fun y:ah=>ah.Sm (2^21) y) a3)
def R:=tQ gd md
def aj {a0 a1 a2 a3}(h:gd a0 a1 a2 a3):R ((aH.r a0),(a1.map aV),(au.r a2),(a3.map ah.row))=some ((aH.r (md a0 a1 a2 a3).1),(md a0 a1 a2 a3).2):=so h
def aM:=CN [.agg tc,pL 3,.agg lu,pL 62] (.gW [(true,f188),(false,[fI])]) RT.dec R
def bn (a0)(a1)(a2)(a3)(hg:gd a0 a1 a2 a3):F (aH.r a0) (a1.map aV) (au.r a2) (a3.map ah.row)=ret ((aH.r (md a0 a1 a2 a3).1),(md a0 a1 a2 a3).2):=by
 obtain ⟨H0,H1,H2,H3⟩:=hg
 refine ct (Z61.aj H0.1) (ct (Z63.aj H0) ?_)
 refine bM (fun b:aH×Int=>ret (((aH.r b.1),b.2):bU×Int)) (fun c1=>ct (Z73.aj H0) fz) (fun c1=>?_)
 refine ct (Z74.aj ⟨(Z61.fo H0.1),H2,H1⟩) (ct (Z75.aj ⟨H0.1,(Z74.fo ⟨(Z61.fo H0.1),H2,H1⟩)⟩) ?_)
 refine bM (fun b:aH×Int=>ret (((aH.r b.1),b.2):bU×Int)) (fun c2=>ct (Z73.aj H0) fz) (fun c2=>?_)
 refine ct (Z16.aj H3) (ct (Z63.aj (a0:=(⟨(Z75.md a0.aC (Z74.md ((Z61.md a0.aC).1) a2 a1)).1,a3⟩:aH)) ⟨(Z75.fo ⟨H0.1,(Z74.fo ⟨(Z61.fo H0.1),H2,H1⟩)⟩),H3⟩) ?_)
 exact bM (fun b:aH×Int=>ret (((aH.r b.1),b.2):bU×Int)) (fun c3=>ct (Z73.aj H0) fz) (fun c3=>fz)
def af:cj 341 aM:=W4 51 F mix az bn (vY Z61.af Z63.af Z73.af Z74.af Z75.af Z16.af) Tryz.func341
def CK {k:Nat}{a0:List aa}{n:Nat}(hn:n<=2^21)(h:bg n (fun y:aa=>aa.Sm k y) a0):au.Sm k (Z61.md a0).1:=by
 have h2:=h.1
 unfold Z61.md
 cases hc:Z60.md a0<;>simp only [Bool.not_true,Bool.not_false,aO,aR]
 ·exact ⟨bg.nil,bg.nil,bg.nil⟩
 ·have:=(Z60.tr hc).1
  exact (bg.getD h (by simp (disch:=omega) only [Go.IntWalk.i64_in];omega)).1
def nextK {k:Nat}{a0:au}{a1 a2 a3:Int}(h:au.Sm k a0):au.Sm k (Z69.md a0 a1 a2 a3).1:=by
 unfold Z69.md
 simp only [Bool.cond_eq_ite]
 repeat' split
 all_goals first | exact ⟨bg.nil,bg.nil,bg.nil⟩ | exact ⟨h.1,h.2.1,h.2.2⟩
def zg {k:Nat}{a0:au}{a1:List ah}{a2 a3:Int}(h:au.Sm k a0):au.Sm k (Z70.md a0 a1 a2 a3).1:=by
 have h1:=nextK (a1:=1) (a2:=a2) (a3:=a3) h
 unfold Z70.md
 simp only [Bool.cond_eq_ite]
 repeat' split
 all_goals first | exact ⟨bg.nil,bg.nil,bg.nil⟩ | exact ⟨h1.1,h1.2.1,h1.2.2⟩
def CF {k:Nat}{a0 a1:au}{a2:List Int}(h:au.Sm k a0)(h1:au.Sm k a1):aa.Sm k (Z74.md a0 a1 a2):=by
 unfold Z74.md
 simp only [Bool.cond_eq_ite]
 repeat' split
 ·exact Z44.DH h.2.1 h1
 ·exact Z44.DH h.2.2 h1
 ·exact Z44.DH h.1 h1
def zk {k:Nat}{a0:List aa}{a1:aa}(h:bg 12 (fun y:aa=>aa.Sm k y) a0)(h1:aa.Sm k a1):bg 12 (fun y:aa=>aa.Sm k y) (Z75.md a0 a1).1:=by
 unfold Z75.md
 simp only [Bool.cond_eq_ite]
 repeat' split
 all_goals first | exact h | skip
 rename_i h1 h2 h3
 have h2:¬((a0.length:Int)>=12):=by simpa using h2
 exact ⟨by simp;omega,fun x hx=>(List.mem_append.1 hx).elim (h.2 x) (fun h=>by simp at h;subst h;assumption)⟩
def EX {z:aH}(h:Z63.md z=true):Z15.md z.bI=true:=by
 unfold Z63.md at h
 revert h
 simp only [Bool.cond_eq_ite]
 repeat' split
 all_goals first | (intro h;cases h) | skip
 intro h
 unfold Z62.md at h
 cases e:Z15.md z.bI
 ·rw [e] at h;cases h
 ·rfl
def ok {z:aH}{k:List Int}{h:au}{l:List ah}(hz:Z45.ok z)(hh:au.Sm 64 h)(hl:∀z∈l,ah.Sm 64 z):Z45.ok (md z k h l).1:=by
 unfold md
 simp only [Bool.cond_eq_ite]
 repeat' split
 all_goals first | exact hz | skip
 rename_i h1 h2 h3
 have h3:=EX (by simpa using h3)
 have hs:=CF (a2:=k) (CK (by decide) hz.1.2) hh
 exact ⟨⟨le_trans hz.1.1 (Z75.CG _ _),zk hz.1.2 hs⟩,⟨Z15.tr h3,hl⟩,h3⟩
end Z76
namespace Z77
def F (x0:bU)(x1 x2:aq)(x3 x4:Int):aD:=(call (Z61.R x0.aC) fun v1=>(call (Z70.R (v1.1,x2,x3,x4)) fun v2=>(cond (!v2.2) (call (Z73.R x0) fun v3=>ret ((v3,2):bU×Int)) (call (Z63.R x0) fun v4=>(cond (!v4) (call (Z73.R x0) fun v5=>ret ((v5,2):bU×Int)) (call (Z76.R (x0,x1,v2.1,x2)) fun v6=>ret ((v6.1,v6.2):bU×Int)))))))
def md (a0:aH)(a1:List Int)(a2:List ah)(a3 a4:Int):aH×Int:=(cond (!(Z70.md ((Z61.md a0.aC).1) a2 a3 a4).2) (a0,2) (cond (!(Z63.md a0)) (a0,2) ((Z76.md a0 a1 ((Z70.md ((Z61.md a0.aC).1) a2 a3 a4).1) a2).1,(Z76.md a0 a1 ((Z70.md ((Z61.md a0.aC).1) a2 a3 a4).1) a2).2)))
def gd (a0:aH)(a1:List Int)(a2:List ah)(a3 a4:Int):Prop:=(aH.Sm (2^21) a0)/\(bg (2^38) (fun y:Int=>True) a1)/\(bg (2^21) (fun y:ah=>ah.Sm (2^21) y) a2)
def R:=sL gd md
def aj {a0 a1 a2 a3 a4}(h:gd a0 a1 a2 a3 a4):R ((aH.r a0),(a1.map aV),(a2.map ah.row),a3,a4)=some ((aH.r (md a0 a1 a2 a3 a4).1),(md a0 a1 a2 a3 a4).2):=sR h
def aM:=CN [.agg tc,pL 3,pL 62,pI,pI] (.gW [(true,f188),(false,[fI])]) RT.dec R
def bn (a0)(a1)(a2)(a3)(a4)(hg:gd a0 a1 a2 a3 a4):F (aH.r a0) (a1.map aV) (a2.map ah.row) a3 a4=ret ((aH.r (md a0 a1 a2 a3 a4).1),(md a0 a1 a2 a3 a4).2):=by
 obtain ⟨H0,H1,H2⟩:=hg
 refine ct (Z61.aj H0.1) (ct (Z70.aj ⟨(Z61.fo H0.1),H2⟩) ?_)
 refine bM (fun b:aH×Int=>ret (((aH.r b.1),b.2):bU×Int)) (fun c1=>ct (Z73.aj H0) fz) (fun c1=>?_)
 exact ct (Z63.aj H0) (bM (fun b:aH×Int=>ret (((aH.r b.1),b.2):bU×Int)) (fun c2=>ct (Z73.aj H0) fz) (fun c2=>ct (Z76.aj ⟨H0,H1,(Z70.fo ⟨(Z61.fo H0.1),H2⟩),H2⟩) fz))
def af:cj 276 aM:=W5 46 F mix az bn (xC Z61.af Z70.af Z73.af Z63.af Z76.af) Tryz.func276
def ok {z:aH}{k:List Int}{l:List ah}{now term:Int}(hz:Z45.ok z)(hl:∀z∈l,ah.Sm 64 z):Z45.ok (md z k l now term).1:=by
 have h:=Z76.ok (k:=k) hz (Z76.zg (a1:=l) (a2:=now) (a3:=term) (Z76.CK (by decide) hz.1.2)) hl
 unfold md
 simp only [Bool.cond_eq_ite]
 repeat' split
 all_goals first | exact hz | exact h
end Z77
namespace Z78
def F (x0:aq)(x1 x2:Int):aD:=(call (Z2.R 3) fun v1=>(call (Z18.R (x0,x1,x2)) fun v2=>(call (Z45.R (v1,3,v2.2.2.2,0,150)) fun v3=>(call (Z2.R 2) fun v4=>(call (Z18.R (x0,v2.2.1,v2.2.2.1)) fun v5=>(call (Z45.R (v4,2,v5.2.2.2,0,150)) fun v6=>(call (Z18.R (x0,v5.2.1,v5.2.2.1)) fun v7=>(call (Z64.R v3.1) fun v8=>(call (Z65.R ((⟨#[115,104,111,112]⟩:av),v8)) fun v9=>(call (Z17.R (v7.2.2.2,v9)) fun v10=>(call (Z64.R v6.1) fun v11=>(call (Z6.R (x0,v7.2.1,v7.2.2.1)) fun v12=>(call (Z66.R ((⟨#[109,97,105,108]⟩:av),v11,[[L.str v12.2.2.2]])) fun v13=>(call (Z17.R (v10.1,v13)) fun v14=>(call (Z67.R (x0,v12.2.1,v12.2.2.1,3)) fun v15=>(cond v15.2.2.2 (call (Z64.R v6.1) fun v16=>(call (Z5.R (x0,v15.2.1,v15.2.2.1,[[L.str (⟨#[98,111,98]⟩:av)],[L.str (⟨#[97,110,110]⟩:av)],[L.str (⟨#[109,97,105,108]⟩:av)]])) fun v17=>(call (Z66.R ((⟨#[98,111,98]⟩:av),v16,[[L.str v17.2.2.2]])) fun v18=>(call (Z17.R (v6.1.bI,v18)) fun v19=>(call (Z77.R (v6.1,[[L.int 2]],v19.1,1,150)) fun v20=>(call (Z2.R 1) fun v21=>(call (Z45.R (v21,1,v14.1,0,150)) fun v22=>ret ((Hl.mk,v17.2.1,v17.2.2.1,[(bU.enc v22.1),(bU.enc v3.1),(bU.enc v20.1)]):Hl×Int×Int×aq)))))))) (call (Z2.R 1) fun v23=>(call (Z45.R (v23,1,v14.1,0,150)) fun v24=>ret ((Hl.mk,v15.2.1,v15.2.2.1,[(bU.enc v24.1),(bU.enc v3.1),(bU.enc v6.1)]):Hl×Int×Int×aq)))))))))))))))))))
abbrev eg:List K:=[.sl 5,aE,aE]
def pats:List (Option fF):=[none]
def res:RP:=.one (.fr 188)
abbrev E:Env:={ T:=assoc mC,G:=cZ [(256,Z2.aM),(255,Z45.aM),(144,Z64.aM),(274,Z65.aM),(273,Z17.aM),(275,Z66.aM),(276,Z77.aM)],nt:=79,M:=ff [],np:=(nC eg),mt:=false,I:=gy [(272,Z18.ic (nC eg)),(237,Z6.ic (nC eg)),(142,Z67.ic (nC eg)),(192,Z5.ic (nC eg))] }
def run_eq (n:Nat)(ls:List L):eY E (fun _=>[]) Tryz.f178 (.cur eg res.parts) n (iG eg pats ls)=F (eU ls) (cF 1 ls) (cF 2 ls):=by kernel_rfl
def gd (x0:aq)(x1 x2:Int):Prop:=CI x0 x1
def post (x0:aq)(x1 x2:Int)(y:Hl×Int×Int×aq):Prop:=CI x0 y.2.1/\∃zs:List aH,y.2.2.2=zs.map aH.row/\zs.length=3/\∀z∈zs,Z45.ok z
def wp (x0:aq)(x1 x2:Int)(hg:gd x0 x1 x2):Wp (F x0 x1 x2) (post x0 x1 x2):=by
 unfold F
 have big:∀{l:List ah} {n:Nat},n<=2^21->bg n (fun z:ah=>ah.Sm 64 z) l->bg (2^21) (fun z:ah=>ah.Sm (2^21) z) l:=fun hn h=>h.mono hn fun _ h=>ah.dV (by decide) h
 have th:∀{l:List ah} {n:Nat},bg n (fun z:ah=>ah.Sm 64 z) l->Z15.md l=true->bg 12 (fun z:ah=>ah.Sm 64 z) l:=fun h ha=>⟨Z15.tr ha,h.2⟩
 have up:∀{l:List ah},bg 12 (fun z:ah=>ah.Sm 64 z) l->bg 1000 (fun z:ah=>ah.Sm 64 z) l:=fun h=>h.mono (by decide) fun _ h=>h
 have k1:∀n:Int,aL.Sm (2^21) (Z2.md n):=fun n=>⟨show (1:Nat)<=2^21 by decide,fun _ _=>trivial⟩
 have zz:∀{z:aH},Z45.ok z->aH.Sm (2^21) z:=fun h=>aH.dV (by decide) (Z45.BJ h)
 have one:∀{b:av},b.size<=16->bg 64 (fun y:av=>y.size<=64) [b]:=fun h=>⟨by simp,fun y hy=>by simp at hy;subst hy;omega⟩
 refine bX (Z2.aj (a0:=3) trivial) (Z18.eJ hg (fun v2 ⟨c2,l2,e2,s2,a2⟩=>?_))
 rw [e2]
 have o2:Z45.ok (Z45.md (Z2.md 3) 3 l2 0 150).1:=Z45.yp (by decide) (by decide) (by decide) (by decide) (by decide) s2.2 a2
 refine bX (Z45.aj (a0:=Z2.md 3) (a1:=3) (a2:=l2) (a3:=0) (a4:=150) ⟨k1 3,big (by decide) s2⟩) ?_
 generalize Z45.md (Z2.md 3) 3 l2 0 150=z2 at o2 ⊢
 refine bX (Z2.aj (a0:=2) trivial) (Z18.eJ c2 (fun v5 ⟨c5,l5,e5,s5,a5⟩=>?_))
 rw [e5]
 have o5:Z45.ok (Z45.md (Z2.md 2) 2 l5 0 150).1:=Z45.yp (by decide) (by decide) (by decide) (by decide) (by decide) s5.2 a5
 refine bX (Z45.aj (a0:=Z2.md 2) (a1:=2) (a2:=l5) (a3:=0) (a4:=150) ⟨k1 2,big (by decide) s5⟩) ?_
 generalize Z45.md (Z2.md 2) 2 l5 0 150=z5 at o5 ⊢
 refine Z18.eJ c5 (fun v7 ⟨c7,l7,e7,s7,a7⟩=>?_)
 rw [e7]
 refine bX (Z64.aj (a0:=z2.1) (zz o2)) (bX (Z65.aj trivial) ?_)
 refine Z17.eJ ⟨⟨l7,rfl,up (th s7 a7),a7⟩,_,rfl,(show (4:Nat)<=64 by decide),zero_le _,fun _ h=>(nomatch h)⟩ (fun v10 ⟨l10,e10,s10,a10⟩=>?_)
 rw [e10]
 refine bX (Z64.aj (a0:=z5.1) (zz o5)) (Z6.eJ c7 (fun v12 ⟨c12,s12⟩=>?_))
 refine bX (Z66.aj (a2:=[v12.2.2.2]) ((one s12).mono (by decide) fun _ h=>le_trans h (by decide))) ?_
 refine Z17.eJ ⟨⟨l10,rfl,up (th s10 a10),a10⟩,_,rfl,(show (4:Nat)<=64 by decide),one s12⟩ (fun v14 ⟨l14,e14,s14,a14⟩=>?_)
 rw [e14]
 have o14:Z45.ok (Z45.md (Z2.md 1) 1 l14 0 150).1:=Z45.yp (by decide) (by decide) (by decide) (by decide) (by decide) s14.2 a14
 refine Z67.eJ c12 (fun v15 c15=>wp_cond (fun _=>?_) (fun _=>?_))
 ·refine bX (Z64.aj (a0:=z5.1) (zz o5)) (Z5.eJ ⟨c15,by show 0<3;decide⟩ (fun v17 ⟨c17,i,hi,e17⟩=>?_))
  have s17:v17.2.2.2.size<=16:=by rw [e17];exact qg rfl hi
  clear e17
  refine bX (Z66.aj (a2:=[v17.2.2.2]) ((one s17).mono (by decide) fun _ h=>le_trans h (by decide))) ?_
  refine Z17.eJ ⟨⟨z5.1.bI,rfl,up o5.2.1,o5.2.2⟩,_,rfl,(show (3:Nat)<=64 by decide),one s17⟩ (fun v19 ⟨l19,e19,s19,a19⟩=>?_)
  rw [e19]
  refine bX (Z77.aj (a0:=z5.1) (a1:=[2]) (a2:=l19) (a3:=1) (a4:=150) ⟨zz o5,⟨show (1:Nat)<=2^38 by decide,fun _ _=>trivial⟩,big (by decide) (th s19 a19)⟩) ?_
  have o20:=Z77.ok (k:=[2]) (now:=1) (term:=150) o5 s19.2
  generalize Z77.md z5.1 [2] l19 1 150=z20 at o20 ⊢
  refine bX (Z2.aj (a0:=1) trivial) (bX (Z45.aj (a0:=Z2.md 1) (a1:=1) (a2:=l14) (a3:=0) (a4:=150) ⟨k1 1,big (by decide) (th s14 a14)⟩) (wp_ret ⟨c17,[(Z45.md (Z2.md 1) 1 l14 0 150).1,z2.1,z20.1],rfl,rfl,fun z hz=>?_⟩))
  simp only [List.mem_cons,List.not_mem_nil,or_false] at hz
  rcases hz with h | h | h<;>rw [h]<;>assumption
 ·refine bX (Z2.aj (a0:=1) trivial) (bX (Z45.aj (a0:=Z2.md 1) (a1:=1) (a2:=l14) (a3:=0) (a4:=150) ⟨k1 1,big (by decide) (th s14 a14)⟩) (wp_ret ⟨c15,[(Z45.md (Z2.md 1) 1 l14 0 150).1,z2.1,z5.1],rfl,rfl,fun z hz=>?_⟩))
  simp only [List.mem_cons,List.not_mem_nil,or_false] at hz
  rcases hz with h | h | h<;>rw [h]<;>assumption
def R:(aq×Int×Int)->Option (Hl×Int×Int×aq):=RQ (fun _ x=>F x.1 x.2.1 x.2.2) (fun x=>post x.1 x.2.1 x.2.2)
def iN {x0:aq}{x1 x2:Int}(hg:gd x0 x1 x2):∃y,R (x0,x1,x2)=some y/\post x0 x1 x2 y:=mh ⟨0,wp x0 x1 x2 hg⟩
def acc (ls:List L):aq×Int×Int:=((eU ls),(cF 1 ls),(cF 2 ls))
def aM:jO:=CC eg pats res acc R
def af:gD Tryz.prog Ev 178 aM:=VC (live:=(fun _=>[])) (mt:=false) mix az (yd Z2.af Z45.af Z64.af Z65.af Z17.af Z66.af Z77.af) .nil (.cons (Z18.bR (nC eg)) (.cons (Z6.bR (nC eg)) (.cons (Z67.bR (nC eg)) (.cons (Z5.bR (nC eg)) .nil)))) Tryz.func178 (by kernel_rfl) run_eq
def ic (_:Nat):gA:=kg Ev aM
def bR (n:Nat):dX Tryz.prog Ev n 178 (ic n):=eR af
end Z78
namespace Z79
def F (x0:aq)(x1 x2:Int)(x3:bU):aD:=(call (Z73.R x3) fun v1=>(cond ((v1.aC.length:Int)>1) (cA ((0:Int)<=(i64.wrap (v1.aC.length - 1))) (cA ((i64.wrap (v1.aC.length - 1))<=v1.aC.length) (cA ((0:Int)<=(i64.wrap (((List.take (toNat ((i64.wrap (v1.aC.length - 1)) - 0)) (List.drop 0 v1.aC)).length) - 1))) (cA ((i64.wrap (((List.take (toNat ((i64.wrap (v1.aC.length - 1)) - 0)) (List.drop 0 v1.aC)).length) - 1))<((List.take (toNat ((i64.wrap (v1.aC.length - 1)) - 0)) (List.drop 0 v1.aC)).length)) (call (Z4.R (x0,x1,x2,9)) fun v2=>(call (Z7.R ((⟨#[101,118,105,108]⟩),v2.2.2.2)) fun v3=>(call (Z17.R (v1.bI,v3)) fun v4=>(call (Z4.R (x0,v2.2.1,v2.2.2.1,9)) fun v5=>(call (Z70.R ((aU.at (List.take (toNat ((i64.wrap (v1.aC.length - 1)) - 0)) (List.drop 0 v1.aC)) (toNat (i64.wrap (((List.take (toNat ((i64.wrap (v1.aC.length - 1)) - 0)) (List.drop 0 v1.aC)).length) - 1)))).an,v4.1,(i64.wrap ((i64.wrap ((aU.at (List.take (toNat ((i64.wrap (v1.aC.length - 1)) - 0)) (List.drop 0 v1.aC)) (toNat (i64.wrap (((List.take (toNat ((i64.wrap (v1.aC.length - 1)) - 0)) (List.drop 0 v1.aC)).length) - 1)))).an.cg+1))+v5.2.2.2)),100)) fun v6=>(cond (!v6.2) (ret ((Hl.mk,v5.2.1,v5.2.2.1,x3):Hl×Int×Int×bU)) (call (Z74.R ((aU.at (List.take (toNat ((i64.wrap (v1.aC.length - 1)) - 0)) (List.drop 0 v1.aC)) (toNat (i64.wrap (((List.take (toNat ((i64.wrap (v1.aC.length - 1)) - 0)) (List.drop 0 v1.aC)).length) - 1)))).an,v6.1,(aU.at (List.take (toNat ((i64.wrap (v1.aC.length - 1)) - 0)) (List.drop 0 v1.aC)) (toNat (i64.wrap (((List.take (toNat ((i64.wrap (v1.aC.length - 1)) - 0)) (List.drop 0 v1.aC)).length) - 1)))).an.bV.bz)) fun v7=>(call (Z75.R ((List.take (toNat ((i64.wrap (v1.aC.length - 1)) - 0)) (List.drop 0 v1.aC)),v7)) fun v8=>(cond (v8.2 != 1) (ret ((Hl.mk,v5.2.1,v5.2.2.1,x3):Hl×Int×Int×bU)) (ret ((Hl.mk,v5.2.1,v5.2.2.1,(⟨v8.1,v4.1⟩)):Hl×Int×Int×bU))))))))))))))) (cA ((0:Int)<=(i64.wrap (v1.aC.length - 1))) (cA ((i64.wrap (v1.aC.length - 1))<v1.aC.length) (call (Z4.R (x0,x1,x2,9)) fun v9=>(call (Z7.R ((⟨#[101,118,105,108]⟩),v9.2.2.2)) fun v10=>(call (Z17.R (v1.bI,v10)) fun v11=>(call (Z4.R (x0,v9.2.1,v9.2.2.1,9)) fun v12=>(call (Z70.R ((aU.at v1.aC (toNat (i64.wrap (v1.aC.length - 1)))).an,v11.1,(i64.wrap ((i64.wrap ((aU.at v1.aC (toNat (i64.wrap (v1.aC.length - 1)))).an.cg+1))+v12.2.2.2)),100)) fun v13=>(cond (!v13.2) (ret ((Hl.mk,v12.2.1,v12.2.2.1,x3):Hl×Int×Int×bU)) (call (Z74.R ((aU.at v1.aC (toNat (i64.wrap (v1.aC.length - 1)))).an,v13.1,(aU.at v1.aC (toNat (i64.wrap (v1.aC.length - 1)))).an.bV.bz)) fun v14=>(call (Z75.R (v1.aC,v14)) fun v15=>(cond (v15.2 != 1) (ret ((Hl.mk,v12.2.1,v12.2.2.1,x3):Hl×Int×Int×bU)) (ret ((Hl.mk,v12.2.1,v12.2.2.1,(⟨v15.1,v11.1⟩)):Hl×Int×Int×bU)))))))))))))))
abbrev eg:List K:=[.sl 5,aE,aE]
def pats:List (Option fF):=[none,some (.agg [.sl 53,.sl 62])]
def res:RP:=.agg [.rd (.sl 53),.rd (.sl 62)]
abbrev E:Env:={ T:=assoc mC,G:=cZ [(328,Z73.aM),(329,Z7.aM),(273,Z17.aM),(330,Z70.aM),(332,Z74.aM),(331,Z75.aM)],nt:=78,M:=ff [],np:=(nC eg),mt:=false,I:=gy [(139,Z4.ic (nC eg))] }
def run_eq (n:Nat)(ls:List L):eY E (fun _=>[]) Tryz.f257 (.cur eg res.parts) n (iG eg pats ls)=F (eU ls) (cF 1 ls) (cF 2 ls) (bU.dec (bA 3 ls)):=by kernel_rfl
def gd (x0:aq)(x1 x2:Int)(x3:bU):Prop:=CI x0 x1/\∃z:aH,x3=aH.r z/\Z45.ok z
def post (x0:aq)(x1 x2:Int)(x3:bU)(y:Hl×Int×Int×bU):Prop:=CI x0 y.2.1/\∃z:aH,y.2.2.2=aH.r z/\Z45.ok z
def wp (x0:aq)(x1 x2:Int)(x3:bU)(hg:gd x0 x1 x2 x3):Wp (F x0 x1 x2 x3) (post x0 x1 x2 x3):=by
 obtain ⟨hc,z,rfl,hz⟩:=hg
 have go:∀ch:List aa,1<=ch.length->bg 12 (fun y:aa=>aa.Sm 64 y) ch->Wp (cA ((0:Int)<=(i64.wrap (((ch.map aa.row).length:Int) - 1))) (cA ((i64.wrap (((ch.map aa.row).length:Int) - 1))<((ch.map aa.row).length:Int)) (call (Z4.R (x0,x1,x2,9)) fun v9=>(call (Z7.R ((⟨#[101,118,105,108]⟩:av),v9.2.2.2)) fun v10=>(call (Z17.R ((z.bI.map ah.row),v10)) fun v11=>(call (Z4.R (x0,v9.2.1,v9.2.2.1,9)) fun v12=>(call (Z70.R ((aU.at (ch.map aa.row) (toNat (i64.wrap (((ch.map aa.row).length:Int) - 1)))).an,v11.1,(i64.wrap ((i64.wrap ((aU.at (ch.map aa.row) (toNat (i64.wrap (((ch.map aa.row).length:Int) - 1)))).an.cg+1))+v12.2.2.2)),100)) fun v13=>(cond (!v13.2) (ret ((Hl.mk,v12.2.1,v12.2.2.1,(aH.r z)):Hl×Int×Int×bU)) (call (Z74.R ((aU.at (ch.map aa.row) (toNat (i64.wrap (((ch.map aa.row).length:Int) - 1)))).an,v13.1,(aU.at (ch.map aa.row) (toNat (i64.wrap (((ch.map aa.row).length:Int) - 1)))).an.bV.bz)) fun v14=>(call (Z75.R ((ch.map aa.row),v14)) fun v15=>(cond (v15.2 != 1) (ret ((Hl.mk,v12.2.1,v12.2.2.1,(aH.r z)):Hl×Int×Int×bU)) (ret ((Hl.mk,v12.2.1,v12.2.2.1,(⟨v15.1,v11.1⟩:bU)):Hl×Int×Int×bU))))))))))))) (post x0 x1 x2 (aH.r z)):=by
  intro ch h1 h2
  have h3:=h2.1
  have hw:i64.wrap (((ch.map aa.row).length:Int) - 1)=(ch.length:Int) - 1:=by rw [List.length_map];exact wi _ (by omega)
  have hat:aU.at (ch.map aa.row) (toNat (i64.wrap (((ch.map aa.row).length:Int) - 1)))=aa.r (ch.getD (ch.length - 1) aa.zero):=by
   rw [hw,show ((ch.length:Int) - 1).toNat=ch.length - 1 by omega]
   unfold aU.at
   rw [List.getD_eq_getElem?_getD,List.getD_eq_getElem?_getD,List.getElem?_map,List.getElem?_eq_getElem (by omega)]
   rfl
  have hsm:aa.Sm 64 (ch.getD (ch.length - 1) aa.zero):=bg.getD h2 (by omega)
  rw [hat]
  generalize ch.getD (ch.length - 1) aa.zero=s at hsm ⊢
  refine fE (decide_eq_true (by rw [hw];omega)) (fE (decide_eq_true (by rw [hw,List.length_map];omega)) ?_)
  refine Z4.eJ hc (fun v9 ⟨c9,_⟩=>bX (Z7.aj trivial) (Z17.eJ ⟨⟨z.bI,rfl,hz.2.1.mono (by decide) fun _ h=>h,hz.2.2⟩,_,rfl,(show (4:Nat)<=64 by decide),zero_le _,fun _ h=>(nomatch h)⟩ (fun v11 ⟨l11,e11,s11,a11⟩=>?_)))
  rw [e11]
  have t11:bg 12 (fun y:ah=>ah.Sm 64 y) l11:=⟨Z15.tr a11,s11.2⟩
  refine Z4.eJ c9 (fun v12 ⟨c12,_⟩=>bX (Z70.aj ⟨au.dV (by decide) hsm.1,t11.mono (by decide) fun _ h=>ah.dV (by decide) h⟩) ?_)
  have hk:=Z76.zg (a1:=l11) (a2:=i64.wrap (i64.wrap ((aa.r s).an.cg+1)+v12.2.2.2)) (a3:=100) hsm.1
  generalize Z70.md s.an l11 (i64.wrap (i64.wrap ((aa.r s).an.cg+1)+v12.2.2.2)) 100=h at hk ⊢
  refine wp_cond (fun _=>wp_ret ⟨c12,z,rfl,hz⟩) (fun _=>bX (Z74.aj ⟨au.dV (by decide) hsm.1,au.dV (by decide) hk,hsm.1.1.mono (by decide) fun _ h=>h⟩) ?_)
  have hs:=Z76.CF (a2:=s.an.bV.bz) hsm.1 hk
  generalize Z74.md s.an h.1 s.an.bV.bz=q at hs ⊢
  refine bX (Z75.aj ⟨h2.mono (by decide) fun _ h=>aa.dV (by decide) h,aa.dV (by decide) hs⟩) (wp_cond (fun _=>wp_ret ⟨c12,z,rfl,hz⟩) (fun _=>wp_ret ⟨c12,⟨(Z75.md ch q).1,l11⟩,rfl,⟨le_trans h1 (Z75.CG _ _),Z76.zk h2 hs⟩,t11,a11⟩))
 have hl:=hz.1.2.1
 have hw:i64.wrap (((z.aC.map aa.row).length:Int) - 1)=(z.aC.length:Int) - 1:=by rw [List.length_map];exact wi _ (by omega)
 refine bX (Z73.aj (aH.dV (by decide) (Z45.BJ hz))) (wp_cond (fun h1=>?_) (fun _=>go z.aC hz.1.1 hz.1.2))
 have h1:=of_decide_eq_true h1
 have h1:((z.aC.map aa.row).length:Int)>1:=h1
 rw [List.length_map] at h1
 have e:List.take (toNat ((i64.wrap (((z.aC.map aa.row).length:Int) - 1)) - 0)) (List.drop 0 (z.aC.map aa.row))=(z.aC.take (z.aC.length - 1)).map aa.row:=by
  rw [hw,List.drop_zero,List.map_take];congr 1;omega
 refine fE (decide_eq_true (by show 0<=i64.wrap (((z.aC.map aa.row).length:Int) - 1);rw [hw];omega)) (fE (decide_eq_true (by show i64.wrap (((z.aC.map aa.row).length:Int) - 1)<=((z.aC.map aa.row).length:Int);rw [hw,List.length_map];omega)) ?_)
 have g:=go (z.aC.take (z.aC.length - 1)) (by rw [List.length_take];omega) ⟨by rw [List.length_take];omega,fun y hy=>hz.1.2.2 y (List.mem_of_mem_take hy)⟩
 rw [<-e] at g
 exact g
def R:(aq×Int×Int×bU)->Option (Hl×Int×Int×bU):=RQ (fun _ x=>F x.1 x.2.1 x.2.2.1 x.2.2.2) (fun x=>post x.1 x.2.1 x.2.2.1 x.2.2.2)
def eJ {x0:aq}{x1 x2:Int}{x3:bU}{γ:Type}[RT γ]{k:(Hl×Int×Int×bU)->aD}{Q:γ->Prop}(hg:gd x0 x1 x2 x3)(hk:∀y,post x0 x1 x2 x3 y->Wp (k y) Q):Wp (call (R (x0,x1,x2,x3)) k) Q:=gq ⟨0,wp x0 x1 x2 x3 hg⟩ hk
def acc (ls:List L):aq×Int×Int×bU:=((eU ls),(cF 1 ls),(cF 2 ls),(bU.dec (bA 3 ls)))
def aM:jO:=CC eg pats res acc R
def af:gD Tryz.prog Ev 257 aM:=VC (live:=(fun _=>[])) (mt:=false) mix az (vY Z73.af Z7.af Z17.af Z70.af Z74.af Z75.af) .nil (.cons (Z4.bR (nC eg)) .nil) Tryz.func257 (by kernel_rfl) run_eq
def ic (_:Nat):gA:=kg Ev aM
def bR (n:Nat):dX Tryz.prog Ev n 257 (ic n):=eR af
end Z79
namespace Z80
inductive Pt where
 | p0 (a:Int) (b:bW) (c d:Int) (e:aq)
def cM:Pt->List V
 | .p0 a b c d e=>[.bP 0 0,.bP 1 0,.bP 2 0,.int .i64 a,.bP 2 0]
def dQ:Pt->List aK
 | .p0 a b c d e=>[.box [.sl none 188 b.bf,.int .i64 b.gJ],.box [.nil,.int .i64 c],.box [.own 3,.int .i64 d],.row 188 e]
def step (J:Pt->aD):Pt->aD
 | .p0 a b c d e=>(cond (a<(b.bf.length:Int)) (m2 a (b.bf.length:Int) (call (Z73.R (bU.at b.bf (toNat a))) fun v1=>(cA (eK (((e.length:Int)+1)*48)) (J (.p0 (i64.wrap (a+1)) b c d (e++[(bU.enc v1)])))))) (ret ((⟨e,d⟩:bW):bW)))
def start (J:Pt->aD)(x0:bW):aD:=J (.p0 0 x0 0 x0.gJ [])
def live:Nat->Live:=gL [(3,[(1,none),(2,none),(3,none),(4,none),(3,some 188)])]
def md (a0:aB):aB:=a0
def gd (a0:aB):Prop:=(aB.Sm (2^21) a0)
def R:=RR gd md
def aj {a0}(h:gd a0):R (aB.r a0)=some (aB.r a0):=cQ h
def aM:=CN [.agg Ac] (.agg f280) RT.dec R
def bn (a0)(H0:gd a0):∃n,start (iter step n) (aB.r a0)=ret (aB.r (md a0)):=by
 have Bh2:=bl H0
 refine ex_eq (out:=(fun b:aB=>ret ((aB.r b):bW))) (gZ (xs:=a0.bf) (z:=aH.zero) (t:=fun s3:List aH=>(⟨s3,a0.gJ⟩:aB))) (dy fz ?_)
 refine bH (pt:=fun (i1:Nat) (s3:List aH)=>Pt.p0 (i1:Int) (aB.r a0) 0 a0.gJ (s3.map aH.row)) (s:=([]:List aH)) (out:=(fun b:aB=>ret ((aB.r b):bW))) (fun (i1:Nat) (s3:List aH)=>s3.length<=([]:List Int).length+1*i1) (fun J i1 s3 h2 hih2=>?_) (fun s3 hih2=>?_) (by simp)
 ·simp only [step,SS]
  have gr_:=hih2
  simp only [LN] at gr_
  have:=(H0).1
  refine aP.yes dt (aP.yes bB ?_)
  refine aP.yes (bQ h2) (cr (Z73.aj (bg.getD H0 h2)) ?_)
  refine aP.yes lm ?_
  refine aP.inl (by
    (simp;omega)) ?_
  rw [aF h2 Bh2]
  exact fz
 ·simp only [step,SS]
  refine cL dn (⟨0,?_⟩)
  exact fz
def af:cj 333 aM:=L1 27 (fun _=>3) cM dQ live step start mix az bn (cO Z73.af) Tryz.func333
end Z80
namespace Z81
inductive Pt where
 | p0 (a:Int) (b:bW)
def cM:Pt->List V
 | .p0 a b=>[.bP 0 0,.int .i64 a]
def dQ:Pt->List aK
 | .p0 a b=>[.box [.sl none 188 b.bf,.int .i64 b.gJ]]
def step (J:Pt->aD):Pt->aD
 | .p0 a b=>(cond (a<(b.bf.length:Int)) (m2 a (b.bf.length:Int) (call (Z63.R (bU.at b.bf (toNat a))) fun v1=>(cond (!v1) eM (J (.p0 (i64.wrap (a+1)) b))))) (cond ((b.bf.length:Int)<=8) (call (Z11.R (b.gJ,0,4)) fun v2=>ret (v2:Bool)) eM))
def start (J:Pt->aD)(x0:bW):aD:=J (.p0 0 x0)
def live:Nat->Live:=gL [(2,jC [1,3])]
def md (a0:aB):Bool:=(dM (S:=Unit) (β:=Bool) (fun y1 s3=>(cond (!(Z63.md y1)) (.inr false) (.inl ()))) (fun s3=>(cond ((a0.bf.length:Int)<=8) ((Z11.md a0.gJ 0 4)) false)) a0.bf ())
def gd (a0:aB):Prop:=(aB.Sm (2^21) a0)
def R:=RR gd md
def aj {a0}(h:gd a0):R (aB.r a0)=some (md a0):=cQ h
def aM:=CN [.agg Ac] oB RT.dec R
def bn (a0)(H0:gd a0):∃n,start (iter step n) (aB.r a0)=ret (md a0):=by
 have Bh2:=bl H0
 refine ex_eq (dZ (z:=aH.zero)) (dy fz ?_)
 refine bH (pt:=fun (i1:Nat) (s3:Unit)=>Pt.p0 (i1:Int) (aB.r a0)) (fun _ _=>True) (fun J i1 s3 h2 hih2=>?_) (fun s3 hih2=>?_) trivial
 ·simp only [step,SS]
  refine aP.yes dt (aP.yes bB ?_)
  refine aP.yes (bQ h2) (cr (Z63.aj (bg.getD H0 h2)) ?_)
  refine aP.bif (fun _=>aP.inr rfl) (fun c4=>?_)
  refine aP.inl trivial ?_
  rw [aF h2 Bh2]
 ·simp only [step,SS]
  refine cL dn (gE ret (fun c5=>?_) (fun _=>⟨0,rfl⟩))
  refine cx (Z11.aj trivial) (⟨0,?_⟩)
  exact fz
def af:cj 334 aM:=L1 27 (fun _=>2) cM dQ live step start mix az bn (fc Z63.af Z11.af) Tryz.func334
end Z81
namespace Z82
inductive Pt where
 | p0 (a b:Int) (c:bW)
def cM:Pt->List V
 | .p0 a b c=>[.int .i64 a,.bP 0 0,.int .i64 b]
def dQ:Pt->List aK
 | .p0 a b c=>[.box [.sl none 188 c.bf,.int .i64 c.gJ]]
def step (J:Pt->aD):Pt->aD
 | .p0 a b c=>(cond (b<(c.bf.length:Int)) (m2 b (c.bf.length:Int) (call (Z64.R (bU.at c.bf (toNat b))) fun v1=>(cond (v1==a) (cond (a>=0) (ret (b:Int)) (J (.p0 a (i64.wrap (b+1)) c))) (J (.p0 a (i64.wrap (b+1)) c))))) mV)
def start (J:Pt->aD)(x0:bW)(x1:Int):aD:=J (.p0 x1 0 x0)
def live:Nat->Live:=gL [(2,jC [1,2,5])]
def md (a0:aB)(a1:Int):Int:=(dY (S:=Unit) (β:=Int) (fun i1 y1 s3=>(cond ((Z64.md y1)==a1) (cond (a1>=0) (.inr (i1)) (.inl ())) (.inl ()))) (fun s3=>((-1):Int)) 0 a0.bf ())
def gd (a0:aB)(a1:Int):Prop:=(aB.Sm (2^21) a0)
def R:=cI gd md
def aj {a0 a1}(h:gd a0 a1):R ((aB.r a0),a1)=some (md a0 a1):=cH h
def aM:=CN [.agg Ac,pI] oI RT.dec R
def bn (a0)(a1)(H0:gd a0 a1):∃n,start (iter step n) (aB.r a0) a1=ret (md a0 a1):=by
 have Bh2:=bl H0
 refine ex_eq (cK (z:=aH.zero)) (dy fz ?_)
 refine bH (pt:=fun (i1:Nat) (s3:Unit)=>Pt.p0 a1 (i1:Int) (aB.r a0)) (fun _ _=>True) (fun J i1 s3 h2 hih2=>?_) (fun s3 hih2=>?_) trivial
 ·simp only [step,SS]
  refine aP.yes dt (aP.yes bB ?_)
  refine aP.yes (bQ h2) (cr (Z64.aj (bg.getD H0 h2)) ?_)
  refine aP.bif (fun c4=>?_) (fun c4=>?_)
  ·refine aP.bif (fun c5=>aP.inr fz) (fun c5=>?_)
   refine aP.inl trivial ?_
   rw [aF h2 Bh2]
  ·refine aP.inl trivial ?_
   rw [aF h2 Bh2]
 ·simp only [step,SS]
  refine cL dn (⟨0,?_⟩)
  exact fz
def af:cj 335 aM:=L2 26 (fun _=>2) cM dQ live step start mix az bn (cO Z64.af) Tryz.func335
def fa (a0:aB)(a1:Int):-1<=md a0 a1/\md a0 a1<(a0.bf.length:Int):=by
 refine jV ?_ _ _
 all_goals
  intro i x s b h
  revert h
  simp only [Bool.cond_eq_ite]
  repeat' split
  all_goals (intro h;first | (cases h;rfl) | cases h)
end Z82
namespace Z83
def F (x0:bW)(x1:bU):aD:=(call (Z80.R x0) fun v1=>(call (Z81.R x0) fun v2=>(cond (!v2) (ret ((v1,false):bW×Bool)) (call (Z63.R x1) fun v3=>(cond (!v3) (ret ((v1,false):bW×Bool)) (call (Z64.R x1) fun v4=>(call (Z82.R (x0,v4)) fun v5=>(cond (v5>=0) (call (Z73.R x1) fun v6=>(m2 v5 v1.bf.length (ret (((⟨(List.set v1.bf (toNat v5) (bU.enc v6)),v1.gJ⟩),true):bW×Bool)))) (cond ((x0.bf.length:Int)>=8) (ret ((v1,false):bW×Bool)) (call (Z73.R x1) fun v7=>(cA (eK ((v1.bf.length+1)*48)) (ret (((⟨(v1.bf++[(bU.enc v7)]),v1.gJ⟩),true):bW×Bool)))))))))))))
def md (a0:aB)(a1:aH):aB×Bool:=(cond (!(Z81.md a0)) (a0,false) (cond (!(Z63.md a1)) (a0,false) (cond ((Z82.md a0 (Z64.md a1))>=0) ((⟨(List.set a0.bf (toNat (Z82.md a0 (Z64.md a1))) a1),a0.gJ⟩),true) (cond ((a0.bf.length:Int)>=8) (a0,false) ((⟨(a0.bf++[a1]),a0.gJ⟩),true)))))
def gd (a0:aB)(a1:aH):Prop:=(aB.Sm (2^21) a0)/\(aH.Sm (2^21) a1)
def R:=cI gd md
def aj {a0 a1}(h:gd a0 a1):R ((aB.r a0),(aH.r a1))=some ((aB.r (md a0 a1).1),(md a0 a1).2):=cH h
def aM:=CN [.agg Ac,.agg tc] (.gW [(true,f280),(false,[fB])]) RT.dec R
def bn (a0)(a1)(hg:gd a0 a1):F (aB.r a0) (aH.r a1)=ret ((aB.r (md a0 a1).1),(md a0 a1).2):=by
 obtain ⟨H0,H1⟩:=hg
 refine ct (Z80.aj H0) ?_
 simp only [SS]
 refine ct (Z81.aj H0) (bM (fun b:aB×Bool=>ret (((aB.r b.1),b.2):bW×Bool)) (fun c1=>fz) (fun c1=>?_))
 refine ct (Z63.aj H1) (bM (fun b:aB×Bool=>ret (((aB.r b.1),b.2):bW×Bool)) (fun c2=>fz) (fun c2=>?_))
 refine ct (Z64.aj H1) (ct (Z82.aj H0) ?_)
 have fv5_:=Z82.fa a0 (Z64.md a1)
 refine bM (fun b:aB×Bool=>ret (((aB.r b.1),b.2):bW×Bool)) (fun c3=>?_) (fun c3=>?_)
 ·have dc3:=c3
  simp only [DC] at dc3
  refine ct (Z73.aj H1) (aG dt ?_)
  exact aG dt fz
 ·refine bM (fun b:aB×Bool=>ret (((aB.r b.1),b.2):bW×Bool)) (fun c4=>fz) (fun c4=>?_)
  have dc4:=c4
  simp only [DC] at dc4
  refine ct (Z73.aj H1) (aG lm ?_)
  exact fz
def af:cj 258 aM:=W2 45 F mix az bn (vY Z80.af Z81.af Z63.af Z64.af Z82.af Z73.af) Tryz.func258
def DH {k:Nat}{a0:aB}{a1:aH}(hk:8<=k)(h:aB.Sm k a0)(h1:aH.Sm k a1):aB.Sm k (md a0 a1).1:=by
 have hm:∀x∈a0.bf,aH.Sm k x:=h.2
 unfold md
 simp only [Bool.cond_eq_ite]
 repeat' split
 all_goals first | exact h | skip
 ·exact ⟨by simpa using h.1,fun x hx=>(List.mem_or_eq_of_mem_set hx).elim (hm x) (fun e=>e ▸ h1)⟩
 ·rename_i h4
  have h4:¬((a0.bf.length:Int)>=8):=by simpa using h4
  exact ⟨by simp;omega,fun x hx=>(List.mem_append.1 hx).elim (hm x) (fun e=>by simp at e;subst e;exact h1)⟩
end Z83
namespace Z84
def F (x0:aq)(x1 x2:Int)(x3:aq):aD:=(call (Z4.R (x0,x1,x2,(x3.length:Int))) fun v1=>(cA ((0:Int)<=v1.2.2.2) (cA (v1.2.2.2<(x3.length:Int)) (ret ((Hl.mk,v1.2.1,v1.2.2.1,(jz x3 (toNat v1.2.2.2))):Hl×Int×Int×Int)))))
abbrev eg:List K:=[.sl 5,aE,aE]
def pats:List (Option fF):=[none,some (.rd (.sl 3))]
def res:RP:=.one (.rd (.int .i64))
abbrev E:Env:={ T:=assoc mC,G:=cZ [],nt:=12,M:=ff [],np:=(nC eg),mt:=false,I:=gy [(139,Z4.ic (nC eg))] }
def run_eq (n:Nat)(ls:List L):eY E (fun _=>[]) Tryz.f145 (.cur eg res.parts) n (iG eg pats ls)=F (eU ls) (cF 1 ls) (cF 2 ls) (fP 3 ls):=by kernel_rfl
def gd (x0:aq)(x1 x2:Int)(x3:aq):Prop:=CI x0 x1/\0<x3.length
def post (x0:aq)(x1 x2:Int)(x3:aq)(y:Hl×Int×Int×Int):Prop:=CI x0 y.2.1/\∃i,i<x3.length/\y.2.2.2=jz x3 i
def wp (x0:aq)(x1 x2:Int)(x3:aq)(hg:gd x0 x1 x2 x3):Wp (F x0 x1 x2 x3) (post x0 x1 x2 x3):=by
 unfold F
 refine Z4.eJ hg.1 (fun v ⟨hv,_,h⟩=>?_)
 obtain ⟨h1,h2⟩:=h (by have:=hg.2;omega)
 exact fE (decide_eq_true h1) (fE (decide_eq_true h2) (wp_ret ⟨hv,_,by omega,rfl⟩))
def R:(aq×Int×Int×aq)->Option (Hl×Int×Int×Int):=RQ (fun _ x=>F x.1 x.2.1 x.2.2.1 x.2.2.2) (fun x=>post x.1 x.2.1 x.2.2.1 x.2.2.2)
def eJ {x0:aq}{x1 x2:Int}{x3:aq}{γ:Type}[RT γ]{k:(Hl×Int×Int×Int)->aD}{Q:γ->Prop}(hg:gd x0 x1 x2 x3)(hk:∀y,post x0 x1 x2 x3 y->Wp (k y) Q):Wp (call (R (x0,x1,x2,x3)) k) Q:=gq ⟨0,wp x0 x1 x2 x3 hg⟩ hk
def acc (ls:List L):aq×Int×Int×aq:=((eU ls),(cF 1 ls),(cF 2 ls),(fP 3 ls))
def aM:jO:=CC eg pats res acc R
def af:gD Tryz.prog Ev 145 aM:=VC (live:=(fun _=>[])) (mt:=false) mix az .nil .nil (.cons (Z4.bR (nC eg)) .nil) Tryz.func145 (by kernel_rfl) run_eq
def ic (_:Nat):gA:=kg Ev aM
def bR (n:Nat):dX Tryz.prog Ev n 145 (ic n):=eR af
end Z84
namespace Z85
inductive Pt where
 | p0 (a:aq) (b c d:Int) (e f:aq)
 | p1 (a:aq) (b:Int) (c:aq) (d e f g:Int) (h i:aq) (j:Int) (k:aq)
def pid:Pt->Nat
 | .p0 ..=>3
 | .p1 ..=>7
def cM:Pt->List V
 | .p0 a b c d e f=>[.bP 0 0,.sl none 188 a,.own 2,.int .i64 b]
 | .p1 a b c d e f g h i j k=>[.bP 0 0,.sl none 188 a,.own 2,.int .i64 b,.bP 3 0,.sl none 188 c,.int .i64 d,.int .i64 e,.bP 3 0]
def dQ:Pt->List aK
 | .p0 a b c d e f=>[.box [.own 1,.int .i64 c,.int .i64 d],.vw 5 e,.row 280 f]
 | .p1 a b c d e f g h i j k=>[.box [.own 1,.int .i64 f,.int .i64 g],.vw 5 h,.row 280 i,.box [.own 4,.int .i64 j],.row 188 k]
def step (J:Pt->aD):Pt->aD
 | .p0 a b c d e f=>(cond (b>0) (J (.p1 a b a (a.length:Int) 0 c d e f 0 [])) (ret ((Hl.mk,c,d,f):Hl×Int×Int×aq)))
 | .p1 a b c d e f g h i j k=>(cond (e<d) (m2 e (c.length:Int) (call (Z67.R (h,f,g,8)) fun v1=>(cond v1.2.2.2 (call (Z79.R (h,v1.2.1,v1.2.2.1,(bU.at c (toNat e)))) fun v2=>(call (Z67.R (h,v2.2.1,v2.2.2.1,8)) fun v3=>(cond (!v3.2.2.2) (call (Z83.R ((⟨k,j⟩:bW),v2.2.2.2)) fun v4=>J (.p1 a b c d (i64.wrap (e+1)) v3.2.1 v3.2.2.1 h i v4.1.gJ v4.1.bf)) (J (.p1 a b c d (i64.wrap (e+1)) v3.2.1 v3.2.2.1 h i j k))))) (call (Z67.R (h,v1.2.1,v1.2.2.1,8)) fun v5=>(cond (!v5.2.2.2) (call (Z83.R ((⟨k,j⟩:bW),(bU.at c (toNat e)))) fun v6=>J (.p1 a b c d (i64.wrap (e+1)) v5.2.1 v5.2.2.1 h i v6.1.gJ v6.1.bf)) (J (.p1 a b c d (i64.wrap (e+1)) v5.2.1 v5.2.2.1 h i j k))))))) (call (Z84.R (h,f,g,[[L.int 0],[L.int 0],[L.int 0],[L.int 1],[L.int 2],[L.int 3],[L.int 4]])) fun v7=>(cA (eK (((i.length:Int)+1)*32)) (J (.p0 a (i64.wrap (b - 1)) v7.2.1 v7.2.2.1 h (i++[(bW.enc (⟨k,v7.2.2.2⟩:bW))]))))))
def start (J:Pt->aD)(x0:aq)(x1 x2:Int)(x3:aq):aD:=(call (Z4.R (x0,x1,x2,3)) fun v1=>J (.p0 x3 (i64.wrap (1+v1.2.2.2)) v1.2.1 v1.2.2.1 x0 []))
def live:Nat->Live:=gL [(3,[(0,none),(1,none),(5,some 280),(6,none)]),(7,[(0,none),(1,none),(5,some 280),(6,none),(7,none),(19,none),(20,none),(21,none),(7,some 188)])]
abbrev eg:List K:=[.sl 5,aE,aE]
def pats:List (Option fF):=[none,some (.rd (.sl 188))]
def res:RP:=.one (.fr 280)
abbrev E:Env:={ T:=assoc mC,G:=cZ [(258,Z83.aM)],nt:=49,M:=ff [],np:=(nC eg),mt:=false,I:=gy [(139,Z4.ic (nC eg)),(142,Z67.ic (nC eg)),(257,Z79.ic (nC eg)),(145,Z84.ic (nC eg))] }
def step_eq (I:dD)(p:Pt):dU E live I (pid p) (bL Tryz.f179) (iT (live (pid p)) (cM p) (dQ p)) (dA E Tryz.f179 (.cur eg res.parts))=step (fun q=>I (pid q) (cM q) (dQ q)) p:=by
 cases p<;>kernel_rfl
def start_eq (I:dD)(ls:List L):gO E live I (bL Tryz.f179) (iG eg pats ls) (dA E Tryz.f179 (.cur eg res.parts))=start (fun q=>I (pid q) (cM q) (dQ q)) (eU ls) (cF 1 ls) (cF 2 ls) (fP 3 ls):=by kernel_rfl
def run_eq (n:Nat)(ls:List L):eY E live Tryz.f179 (.cur eg res.parts) n (iG eg pats ls)=start (iter step n) (eU ls) (cF 1 ls) (cF 2 ls) (fP 3 ls):=dI (id:=pid) (vs:=cM) (hs:=dQ) (step:=step) (start:=fun J=>start J (eU ls) (cF 1 ls) (cF 2 ls) (fP 3 ls)) step_eq (fun I=>start_eq I ls) n
def gd (x0:aq)(x1 x2:Int)(x3:aq):Prop:=CI x0 x1/\∃zs:List aH,x3=zs.map aH.row/\zs.length=3/\∀z∈zs,Z45.ok z
def post (x0:aq)(x1 x2:Int)(x3:aq)(y:Hl×Int×Int×aq):Prop:=CI x0 y.2.1/\∃m:List aB,y.2.2.2=m.map aB.row/\bg 3 (fun z:aB=>aB.Sm 64 z) m
def wp (x0:aq)(x1 x2:Int)(x3:aq)(hg:gd x0 x1 x2 x3):∃n,Wp (start (iter step n) x0 x1 x2 x3) (post x0 x1 x2 x3):=by
 obtain ⟨hc,zs,rfl,h3,hz⟩:=hg
 have key:∀b c d,1<=b->b<=3->CI x0 c->∃n,Wp (iter step n (.p0 (zs.map aH.row) b c d x0 [])) (post x0 x1 x2 (zs.map aH.row)):=by
  intro b0 c0 d0 b1 b2 b3
  refine ⟨36,kH (fun p=>match p with
   | .p0 a b c d e f=>a=zs.map aH.row/\0<=b/\b<=3/\CI e c/\e=x0/\∃ms:List aB,f=ms.map aB.row/\(ms.length:Int)+b<=3/\∀s∈ms,aB.Sm 64 s
   | .p1 a b c d e f g h i j k=>a=zs.map aH.row/\1<=b/\b<=3/\c=zs.map aH.row/\d=3/\0<=e/\e<=3/\CI h f/\h=x0/\(∃ms:List aB,i=ms.map aB.row/\(ms.length:Int)+b<=3/\∀s∈ms,aB.Sm 64 s)/\∃s:aB,(⟨k,j⟩:bW)=aB.r s/\aB.Sm 64 s)
   (fun p=>match p with | .p0 a b c d e f=>(10*b+5).toNat | .p1 a b c d e f g h i j k=>(10*b+(3 - e)).toNat) (fun J p hI hJ=>?_) _ _ ⟨rfl,by omega,b2,b3,rfl,[],rfl,by show (0:Int)+b0<=3;omega,fun _ h=>(nomatch h)⟩ (by show (10*b0+5).toNat<36;omega)⟩
  cases p with
  | p0 a b c d e f=>
   obtain ⟨rfl,k1,k2,k3,rfl,ms,rfl,h6,h7⟩:=hI
   refine wp_cond (fun c1=>?_) (fun c1=>wp_ret ⟨k3,ms,rfl,by omega,h7⟩)
   have c1:=of_decide_eq_true c1
   refine hJ _ ⟨rfl,by omega,k2,rfl,by rw [List.length_map,h3];rfl,Int.le_refl _,by decide,k3,rfl,⟨ms,rfl,h6,h7⟩,⟨[],0⟩,rfl,zero_le _,fun _ h=>(nomatch h)⟩ ?_
   show (10*b+(3 - 0)).toNat<(10*b+5).toNat
   omega
  | p1 a b c d e f g h i j k=>
   obtain ⟨rfl,k1,k2,rfl,rfl,k4,k5,k6,rfl,⟨ms,rfl,h6,h7⟩,s,hs,h8⟩:=hI
   refine wp_cond (fun c1=>?_) (fun c1=>?_)
   ·have c1:=of_decide_eq_true c1
    have e1:i64.wrap (e+1)=e+1:=wi _ (by omega)
    have q0:0<=i64.wrap (e+1):=by omega
    have q3:i64.wrap (e+1)<=3:=by omega
    have km:(10*b+(3 - i64.wrap (e+1))).toNat<(10*b+(3 - e)).toNat:=by omega
    have hi:e.toNat<zs.length:=by omega
    have ho:=hz _ (List.getElem_mem hi)
    refine tN k4 (by rw [List.length_map];omega) ?_
    rw [aH.sW hi]
    have rest:∀(z:aH) (p q:Int),Z45.ok z->CI h p->Wp (call (Z67.R (h,p,q,8)) fun v3=>(cond (!v3.2.2.2) (call (Z83.R ((⟨k,j⟩:bW),aH.r z)) fun v4=>J (.p1 (zs.map aH.row) b (zs.map aH.row) 3 (i64.wrap (e+1)) v3.2.1 v3.2.2.1 h (ms.map aB.row) v4.1.gJ v4.1.bf)) (J (.p1 (zs.map aH.row) b (zs.map aH.row) 3 (i64.wrap (e+1)) v3.2.1 v3.2.2.1 h (ms.map aB.row) j k)))) (post h x1 x2 (zs.map aH.row)):=by
     intro z p q hz hp
     refine Z67.eJ hp (fun v3 d3=>wp_cond (fun _=>?_) (fun _=>hJ _ ⟨rfl,k1,k2,rfl,rfl,q0,q3,d3,rfl,⟨ms,rfl,h6,h7⟩,s,hs,h8⟩ km))
     rw [hs]
     refine bX (Z83.aj ⟨aB.dV (by decide) h8,aH.dV (by decide) (Z45.BJ hz)⟩) (hJ _ ⟨rfl,k1,k2,rfl,rfl,q0,q3,d3,rfl,⟨ms,rfl,h6,h7⟩,(Z83.md s z).1,rfl,Z83.DH (by decide) h8 (Z45.BJ hz)⟩ km)
    refine Z67.eJ k6 (fun v1 d1=>wp_cond (fun _=>?_) (fun _=>rest _ _ _ ho d1))
    refine Z79.eJ ⟨d1,_,rfl,ho⟩ (fun v2 ⟨d2,z2,ez,oz⟩=>?_)
    rw [ez]
    exact rest _ _ _ oz d2
   ·refine Z84.eJ ⟨k6,by show 0<7;decide⟩ (fun v7 ⟨d7,_⟩=>fE (gC (by rw [List.length_map];omega)) ?_)
    have e1:i64.wrap (b - 1)=b - 1:=wi _ (by omega)
    have hk:k=s.bf.map aH.row:=congrArg bW.bf hs
    refine hJ _ ⟨rfl,by omega,by omega,d7,rfl,ms++[⟨s.bf,v7.2.2.2⟩],by rw [List.map_append,hk];rfl,by rw [e1];simp;omega,fun x hx=>?_⟩ ?_
    ·rcases List.mem_append.1 hx with h | h
     ·exact h7 x h
     ·rw [List.mem_singleton.1 h];exact h8
    ·show (10*i64.wrap (b - 1)+5).toNat<(10*b+(3 - e)).toNat
     omega
 obtain ⟨v,hv,pv⟩:=Z4.iN (x3:=3) hc
 obtain ⟨h1,h2⟩:=pv.2.2 (by decide)
 have e1:i64.wrap (1+v.2.2.2)=1+v.2.2.2:=wi _ (by omega)
 obtain ⟨n,hn⟩:=key (i64.wrap (1+v.2.2.2)) v.2.1 v.2.2.1 (by omega) (by omega) pv.1
 exact ⟨n,bX hv hn⟩
def R:(aq×Int×Int×aq)->Option (Hl×Int×Int×aq):=RQ (fun n x=>start (iter step n) x.1 x.2.1 x.2.2.1 x.2.2.2) (fun x=>post x.1 x.2.1 x.2.2.1 x.2.2.2)
def iN {x0:aq}{x1 x2:Int}{x3:aq}(hg:gd x0 x1 x2 x3):∃y,R (x0,x1,x2,x3)=some y/\post x0 x1 x2 x3 y:=mh (wp x0 x1 x2 x3 hg)
def acc (ls:List L):aq×Int×Int×aq:=((eU ls),(cF 1 ls),(cF 2 ls),(fP 3 ls))
def aM:jO:=CC eg pats res acc R
def af:gD Tryz.prog Ev 179 aM:=VC (live:=live) (mt:=false) mix az (cO Z83.af) .nil (.cons (Z4.bR (nC eg)) (.cons (Z67.bR (nC eg)) (.cons (Z79.bR (nC eg)) (.cons (Z84.bR (nC eg)) .nil)))) Tryz.func179 (by kernel_rfl) run_eq
def ic (_:Nat):gA:=kg Ev aM
def bR (n:Nat):dX Tryz.prog Ev n 179 (ic n):=eR af
end Z85
namespace Z86
def F (x0:cB):aD:=(call (Z71.R x0.bp) fun v1=>(call (Z71.R x0.fA) fun v2=>(call (Z71.R x0.fB) fun v3=>ret ((⟨v1,v2,v3⟩):cB))))
def md (a0:aN):aN:=a0
def gd (a0:aN):Prop:=(aN.Sm (2^21) a0)
def R:=RR gd md
def aj {a0}(h:gd a0):R (aN.r a0)=some (aN.r a0):=cQ h
def aM:=CN [.agg vK] (.agg f170) RT.dec R
def bn (a0)(H0:gd a0):F (aN.r a0)=ret (aN.r (md a0)):=by
 refine ct (Z71.aj H0.1) (ct (Z71.aj H0.2.1) ?_)
 exact ct (Z71.aj H0.2.2) fz
def af:cj 214 aM:=W1 13 F mix az bn (cO Z71.af) Tryz.func214
end Z86
namespace Z87
inductive Pt where
 | p0 (a:Int) (b:aW) (c:aq)
 | p1 (a:Int) (b:aW) (c d:aq)
def pid:Pt->Nat
 | .p0 ..=>3
 | .p1 ..=>7
def cM:Pt->List V
 | .p0 a b c=>[.bP 0 0,.bP 1 0,.bP 2 0,.int .i64 a,.bP 2 0]
 | .p1 a b c d=>[.bP 0 0,.bP 1 0,.bP 2 0,.int .i64 a,.bP 2 0,.bP 2 0]
def dQ:Pt->List aK
 | .p0 a b c=>[.box [.sl none 37 b.ay,.sl none 170 b.aY],.box [.nil,.nil],.box [.own 3,.nil],.row 37 c]
 | .p1 a b c d=>[.box [.sl none 37 b.ay,.sl none 170 b.aY],.box [.nil,.nil],.box [.own 3,.own 4],.row 37 c,.row 170 d]
def step (J:Pt->aD):Pt->aD
 | .p0 a b c=>(cond (a<(b.ay.length:Int)) (m2 a (b.ay.length:Int) (call (Z72.R (rK b.ay (toNat a))) fun v1=>(cA (eK (((c.length:Int)+1)*24)) (J (.p0 (i64.wrap (a+1)) b (c++[[L.sl v1]])))))) (J (.p1 0 b c [])))
 | .p1 a b c d=>(cond (a<(b.aY.length:Int)) (m2 a (b.aY.length:Int) (call (Z86.R (cB.at b.aY (toNat a))) fun v1=>(cA (eK (((d.length:Int)+1)*600)) (J (.p1 (i64.wrap (a+1)) b c (d++[(cB.enc v1)])))))) (ret ((⟨c,d⟩:aW):aW)))
def start (J:Pt->aD)(x0:aW):aD:=J (.p0 0 x0 [])
def live:Nat->Live:=gL [(3,[(1,none),(2,none),(3,none),(4,none),(3,some 37)]),(7,[(1,none),(2,none),(3,none),(5,none),(3,some 37),(3,some 1048746)])]
def md (a0:ak):ak:=a0
def gd (a0:ak):Prop:=(ak.Sm (2^21) a0)
def R:=RR gd md
def aj {a0}(h:gd a0):R (ak.r a0)=some (ak.r a0):=cQ h
def aM:=CN [.agg wg] (.agg f36) RT.dec R
def bn (a0)(H0:gd a0):∃n,start (iter step n) (ak.r a0)=ret (ak.r (md a0)):=by
 have Bh2:=bl H0.1
 refine ex_eq (out:=(fun b:ak=>ret ((ak.r b):aW))) (gZ (xs:=a0.ay) (z:=[]) (t:=fun s3:List (List aa)=>(⟨s3,a0.aY⟩:ak))) (dy fz ?_)
 refine bH (pt:=fun (i1:Nat) (s3:List (List aa))=>Pt.p0 (i1:Int) (ak.r a0) (s3.map (fR aa.row))) (s:=([]:List (List aa))) (out:=(fun b:ak=>ret ((ak.r b):aW))) (fun (i1:Nat) (s3:List (List aa))=>s3.length<=([]:List Int).length+1*i1) (fun J i1 s3 h2 hih2=>?_) (fun s3 hih2=>?_) (by simp)
 ·simp only [step,SS]
  have gr_:=hih2
  simp only [LN] at gr_
  have:=(H0.1).1
  refine aP.yes dt (aP.yes bB ?_)
  refine aP.yes (bQ h2) (cr (Z72.aj (bg.getD H0.1 h2)) ?_)
  refine aP.yes lm ?_
  refine aP.inl (by
    (simp;omega)) ?_
  rw [aF h2 Bh2]
  exact fz
 ·simp only [step,SS]
  refine cL dn ?_
  have Bh5:=bl H0.2
  refine ex_eq (out:=(fun b:ak=>ret ((ak.r b):aW))) (gZ (xs:=a0.aY) (z:=aN.zero) (t:=fun s6:List aN=>(⟨s3,s6⟩:ak))) (dy fz ?_)
  refine bH (pt:=fun (i4:Nat) (s6:List aN)=>Pt.p1 (i4:Int) (ak.r a0) (s3.map (fR aa.row)) (s6.map aN.row)) (s:=([]:List aN)) (out:=(fun b:ak=>ret ((ak.r b):aW))) (fun (i4:Nat) (s6:List aN)=>s6.length<=([]:List Int).length+1*i4) (fun J i4 s6 h5 hih5=>?_) (fun s6 hih5=>?_) (by simp)
  ·simp only [step,SS]
   have gr_:=hih5
   simp only [LN] at gr_
   have:=(H0.2).1
   refine aP.yes dt (aP.yes bB ?_)
   refine aP.yes (bQ h5) (cr (Z86.aj (bg.getD H0.2 h5)) ?_)
   refine aP.yes lm ?_
   refine aP.inl (by
     (simp;omega)) ?_
   rw [aF h5 Bh5]
   exact fz
  ·simp only [step,SS]
   refine cL dn (⟨0,?_⟩)
   exact fz
def af:cj 120 aM:=L1 44 pid cM dQ live step start mix az bn (fc Z72.af Z86.af) Tryz.func120
end Z87
namespace Z88
inductive Pt where
 | p0 (a b:Int) (c:aW)
def cM:Pt->List V
 | .p0 a b c=>[.int .i64 a,.bP 0 0,.int .i64 b]
def dQ:Pt->List aK
 | .p0 a b c=>[.box [.sl none 37 c.ay,.sl none 170 c.aY]]
def step (J:Pt->aD):Pt->aD
 | .p0 a b c=>(cond (b<(c.ay.length:Int)) (m2 b (c.ay.length:Int) (cond (((rK c.ay (toNat b)).length:Int)>0) (m2 b (c.ay.length:Int) (cA ((0:Int)<((rK c.ay (toNat b)).length:Int)) (cond ((aU.at (rK c.ay (toNat b)) 0).an.aX==a) (ret (b:Int)) (J (.p0 a (i64.wrap (b+1)) c))))) (J (.p0 a (i64.wrap (b+1)) c)))) mV)
def start (J:Pt->aD)(x0:aW)(x1:Int):aD:=J (.p0 x1 0 x0)
def live:Nat->Live:=gL [(2,jC [1,2,5])]
def md (a0:ak)(a1:Int):Int:=(dY (S:=Unit) (β:=Int) (fun i1 (y1:List aa) s3=>(cond ((y1.length:Int)>0) (cond (((y1.getD 0 aa.zero).an).aX==a1) (.inr (i1)) (.inl ())) (.inl ()))) (fun s3=>((-1):Int)) 0 a0.ay ())
def gd (a0:ak)(a1:Int):Prop:=(ak.Sm (2^21) a0)
def R:=cI gd md
def aj {a0 a1}(h:gd a0 a1):R ((ak.r a0),a1)=some (md a0 a1):=cH h
def aM:=CN [.agg wg,pI] oI RT.dec R
def bn (a0)(a1)(H0:gd a0 a1):∃n,start (iter step n) (ak.r a0) a1=ret (md a0 a1):=by
 have Bh2:=bl H0.1
 refine ex_eq (cK (z:=[])) (dy fz ?_)
 refine bH (pt:=fun (i1:Nat) (s3:Unit)=>Pt.p0 a1 (i1:Int) (ak.r a0)) (fun _ _=>True) (fun J i1 s3 h2 hih2=>?_) (fun s3 hih2=>?_) trivial
 ·simp only [step,SS]
  refine aP.yes dt (aP.yes bB ?_)
  refine aP.yes (bQ h2) (aP.bif (fun c4=>?_) (fun c4=>?_))
  ·have dc4:=c4
   simp only [DC] at dc4
   refine aP.yes bB (aP.yes (bQ h2) ?_)
   refine aP.yes (have:=((bg.getD (z:=[]) H0.1 h2)).1;dt) (aP.bif (fun c5=>aP.inr fz) (fun c5=>?_))
   refine aP.inl trivial ?_
   rw [aF h2 Bh2]
  ·refine aP.inl trivial ?_
   rw [aF h2 Bh2]
 ·simp only [step,SS]
  refine cL dn (⟨0,?_⟩)
  exact fz
def af:cj 122 aM:=L2 34 (fun _=>2) cM dQ live step start mix az bn .nil Tryz.func122
def fa (a0:ak)(a1:Int):-1<=md a0 a1/\md a0 a1<(a0.ay.length:Int):=by
 refine jV ?_ _ _
 all_goals
  intro i x s b h
  revert h
  simp only [Bool.cond_eq_ite]
  repeat' split
  all_goals (intro h;first | (cases h;rfl) | cases h)
end Z88
namespace Z89
def F (x0 x1:bN):aD:=(call (Z39.R x0) fun v1=>(call (Z39.R x1) fun v2=>(call (Z52.R (v1,v2)) fun v3=>(cond v3 (ret ((x0.bh==x1.bh))) (ret false)))))
def md (a0 a1:au):Bool:=(cond (Z52.md (Z39.md a0) (Z39.md a1)) ((a0.bh==a1.bh)) false)
def gd (a0 a1:au):Prop:=(au.Sm (2^21) a0)/\(au.Sm (2^21) a1)
def R:=cI gd md
def aj {a0 a1}(h:gd a0 a1):R ((au.r a0),(au.r a1))=some (md a0 a1):=cH h
def aM:=CN [.agg lu,.agg lu] oB RT.dec R
def bn (a0)(a1)(hg:gd a0 a1):F (au.r a0) (au.r a1)=ret (md a0 a1):=by
 obtain ⟨H0,H1⟩:=hg
 refine ct (Z39.aj H0) (ct (Z39.aj H1) ?_)
 refine ct (Z52.aj ⟨⟨(have:=Z39.len a0;have:=(H0.1).1;have:=(H0.2.1).1;have:=(H0.2.2).1;om),fun _ _=>trivial⟩,⟨(have:=Z39.len a1;have:=(H1.1).1;have:=(H1.2.1).1;have:=(H1.2.2).1;om),fun _ _=>trivial⟩⟩) (bs (fun c1=>?_) (fun _=>rfl))
 exact fz
def af:cj 216 aM:=W2 17 F mix az bn (fc Z39.af Z52.af) Tryz.func216
def md_eq (a0 a1:au):md a0 a1=iV a0 a1:=by
 unfold md
 simp only [Z52.md_eq,bool_beq]
 rw [Bool.eq_iff_iff]
 constructor
 ·intro h
  cases he:iV (Z39.md a0) (Z39.md a1)<;>rw [he] at h
  ·cases h
  ·exact dO.2 (Z39.inj (dO.1 he))
 ·intro h
  rw [dO] at h
  rw [h,pN,pN];rfl
end Z89
namespace Z90
inductive Pt where
 | p0 (a b:aq) (c:Int)
def cM:Pt->List V
 | .p0 a b c=>[.sl none 53 a,.sl none 53 b,.int .i64 c]
def step (J:Pt->aD):Pt->aD
 | .p0 a b c=>(cond (c<(a.length:Int)) (m2 c (a.length:Int) (m2 c (b.length:Int) (call (Z89.R ((aU.at a (toNat c)).an,(aU.at b (toNat c)).an)) fun v1=>(cond (!v1) eM (J (.p0 a b (i64.wrap (c+1)))))))) nS)
def start (J:Pt->aD)(x0 x1:aq):aD:=(cond (x0.length>(x1.length:Int)) (ret false) (J (.p0 x0 x1 0)))
def live:Nat->Live:=gL [(4,jC [0,1,5])]
def md (a0 a1:List aa):Bool:=(bif (decide (a0.length>(a1.length:Int))) then false else (eB (S:=Unit) (β:=Bool) (fun i2 s4=>(cond (!(Z89.md ((a0.getD i2 aa.zero).an) ((a1.getD i2 aa.zero).an))) (.inr false) (.inl ()))) (fun s4=>true) a0.length 0 ()))
def gd (a0 a1:List aa):Prop:=(bg (2^21) (fun y:aa=>aa.Sm (2^21) y) a0)/\(bg (2^21) (fun y:aa=>aa.Sm (2^21) y) a1)
def R:=cI gd md
def aj {a0 a1}(h:gd a0 a1):R ((a0.map aa.row),(a1.map aa.row))=some (md a0 a1):=cH h
def aM:=CN [pL 53,pL 53] oB RT.dec R
def bn (a0)(a1)(hg:gd a0 a1):∃n,start (iter step n) (a0.map aa.row) (a1.map aa.row)=ret (md a0 a1):=by
 obtain ⟨H0,H1⟩:=hg
 unfold start md
 simp only [SS]
 refine gE ret (fun _=>⟨0,rfl⟩) (fun c1=>?_)
 have dc1:=c1
 simp only [DC] at dc1
 have Bh3:=bl H0
 refine dy fz (bH (pt:=fun (i2:Nat) (s4:Unit)=>Pt.p0 (a0.map aa.row) (a1.map aa.row) (i2:Int)) (fun _ _=>True) (fun J i2 s4 h3 hih3=>?_) (fun s4 hih3=>?_) trivial)
 ·simp only [step,SS]
  refine aP.yes dt (aP.yes bB ?_)
  refine aP.yes (bQ h3) (aP.yes bB ?_)
  refine aP.yes dt (cr (Z89.aj ⟨(bg.getD H0 h3).1,(bg.getD H1 (by omega)).1⟩) ?_)
  refine aP.bif (fun _=>aP.inr rfl) (fun c5=>?_)
  refine aP.inl trivial ?_
  rw [aF h3 Bh3]
 ·simp only [step,SS]
  refine cL dn (⟨0,?_⟩)
  exact fz
def af:cj 171 aM:=L2 29 (fun _=>4) cM (fun _=>[]) live step start mix az bn (cO Z89.af) Tryz.func171
end Z90
namespace Z91
def F (x0:aW)(x1:aq):aD:=(call (Z60.R x1) fun v1=>(cond (!v1) (ret (6:Int)) (cA ((0:Int)<x1.length) (call (Z88.R (x0,(aU.at x1 0).an.aX)) fun v2=>(cond (v2<0) (ret (1:Int)) (m2 v2 x0.ay.length (call (Z90.R ((rK x0.ay (toNat v2)),x1)) fun v3=>(m2 v2 x0.ay.length (call (Z90.R (x1,(rK x0.ay (toNat v2)))) fun v4=>(cond v3 (cond v4 (ret (2:Int)) (cond v3 (ret (3:Int)) (cond v4 (ret (4:Int)) (ret (5:Int))))) (cond v3 (ret (3:Int)) (cond v4 (ret (4:Int)) (ret (5:Int))))))))))))))
def md (a0:ak)(a1:List aa):Int:=(cond (!(Z60.md a1)) (6:Int) (cond ((Z88.md a0 (((a1.getD 0 aa.zero).an).aX))<0) (1:Int) (cond (Z90.md (a0.ay.getD (toNat (Z88.md a0 (((a1.getD 0 aa.zero).an).aX))) []) a1) (cond (Z90.md a1 (a0.ay.getD (toNat (Z88.md a0 (((a1.getD 0 aa.zero).an).aX))) [])) (2:Int) (cond (Z90.md (a0.ay.getD (toNat (Z88.md a0 (((a1.getD 0 aa.zero).an).aX))) []) a1) (3:Int) (cond (Z90.md a1 (a0.ay.getD (toNat (Z88.md a0 (((a1.getD 0 aa.zero).an).aX))) [])) (4:Int) (5:Int)))) (cond (Z90.md (a0.ay.getD (toNat (Z88.md a0 (((a1.getD 0 aa.zero).an).aX))) []) a1) (3:Int) (cond (Z90.md a1 (a0.ay.getD (toNat (Z88.md a0 (((a1.getD 0 aa.zero).an).aX))) [])) (4:Int) (5:Int))))))
def gd (a0:ak)(a1:List aa):Prop:=(ak.Sm (2^21) a0)/\(bg (2^21) (fun y:aa=>aa.Sm (2^21) y) a1)
def R:=cI gd md
def aj {a0 a1}(h:gd a0 a1):R ((ak.r a0),(a1.map aa.row))=some (md a0 a1):=cH h
def aM:=CN [.agg wg,pL 53] oI RT.dec R
def bn (a0)(a1)(hg:gd a0 a1):F (ak.r a0) (a1.map aa.row)=ret (md a0 a1):=by
 obtain ⟨H0,H1⟩:=hg
 unfold F md
 simp only [SS]
 refine ct (Z60.aj H1) (bs (fun _=>rfl) (fun c1=>?_))
 have tc1:=Z60.tr (by simpa using c1)
 refine aG dt (ct (Z88.aj H0) ?_)
 have fv2_:=Z88.fa a0 (((a1.getD 0 aa.zero).an).aX)
 refine bs (fun _=>rfl) (fun c2=>?_)
 have dc2:=c2
 simp only [DC] at dc2
 refine aG dt (aG (have:=(H0.1).1;dt) ?_)
 refine ct (Z90.aj ⟨(bg.getD H0.1 (by omega)),H1⟩) (aG dt ?_)
 refine aG (have:=(H0.1).1;dt) (ct (Z90.aj ⟨H1,(bg.getD H0.1 (by omega))⟩) ?_)
 refine bs (fun c3=>?_) (fun c3=>?_)
 ·refine bs (fun _=>rfl) (fun c4=>?_)
  refine bs (fun _=>rfl) (fun c5=>?_)
  refine bs (fun _=>rfl) (fun _=>rfl)
 ·refine bs (fun _=>rfl) (fun c7=>?_)
  refine bs (fun _=>rfl) (fun _=>rfl)
def af:cj 52 aM:=W2 43 F mix az bn (jB Z60.af Z88.af Z90.af) Tryz.func52
def fa (a0:ak)(a1:List aa):(md a0 a1=3->1<=a1.length/\0<=Z88.md a0 (a1.getD 0 aa.zero).an.aX)/\(md a0 a1=5->1<=a1.length/\0<=Z88.md a0 (a1.getD 0 aa.zero).an.aX):=by
 unfold md
 cases h:Z60.md a1
 ·exact ⟨fun h=>by simp at h,fun h=>by simp at h⟩
 ·have t:=Z60.tr h
  cases hf:decide (Z88.md a0 ((a1.getD 0 aa.zero).an.aX)<0)
  ·have:=of_decide_eq_false hf
   exact ⟨fun _=>⟨t.1,by omega⟩,fun _=>⟨t.1,by omega⟩⟩
  ·exact ⟨fun h=>by simp at h,fun h=>by simp at h⟩
end Z91
namespace Z92
inductive Pt where
 | p0 (a b:aq) (c d e f g h i j k l m n o:Int) (p:Bool) (q s t u v w y z w24 w25 w26 w27:Int) (w28:Bool) (w29 w30 w31 w32 w33 w34 w35 w36 w37 w38 w39 w40:Int) (w41:Bool)
def cM:Pt->List V
 | .p0 a b c d e f g h i j k l m n o p q s t u v w y z w24 w25 w26 w27 w28 w29 w30 w31 w32 w33 w34 w35 w36 w37 w38 w39 w40 w41=>[.sl none 53 a,.sl none 53 b,.bP 0 0,.int .i64 c]
def dQ:Pt->List aK
 | .p0 a b c d e f g h i j k l m n o p q s t u v w y z w24 w25 w26 w27 w28 w29 w30 w31 w32 w33 w34 w35 w36 w37 w38 w39 w40 w41=>[.box [.int .i64 d,.int .i64 e,.int .i64 f,.int .i64 g,.int .i64 h,.int .i64 i,.int .i64 j,.int .i64 k,.nil,.int .i64 l,.nil,.int .i64 m,.int .i64 n,.nil,.int .i64 o,.bool p,.nil,.int .i64 q,.int .i64 s,.int .i64 t,.int .i64 u,.int .i64 v,.int .i64 w,.int .i64 y,.int .i64 z,.nil,.int .i64 w24,.nil,.int .i64 w25,.int .i64 w26,.nil,.int .i64 w27,.bool w28,.nil,.int .i64 w29,.int .i64 w30,.int .i64 w31,.int .i64 w32,.int .i64 w33,.int .i64 w34,.int .i64 w35,.int .i64 w36,.nil,.int .i64 w37,.nil,.int .i64 w38,.int .i64 w39,.nil,.int .i64 w40,.bool w41,.nil]]
def step (J:Pt->aD):Pt->aD
 | .p0 a b c d e f g h i j k l m n o p q s t u v w y z w24 w25 w26 w27 w28 w29 w30 w31 w32 w33 w34 w35 w36 w37 w38 w39 w40 w41=>(cond (c<(a.length:Int)) (cond (c<(b.length:Int)) (m2 c (a.length:Int) (m2 c (b.length:Int) (call (Z89.R ((aU.at a (toNat c)).an,(aU.at b (toNat c)).an)) fun v1=>(cond v1 (J (.p0 a b (i64.wrap (c+1)) d e f g h i j k l m n o p q s t u v w y z w24 w25 w26 w27 w28 w29 w30 w31 w32 w33 w34 w35 w36 w37 w38 w39 w40 w41)) (m2 c (a.length:Int) (call (Z71.R (aU.at a (toNat c))) fun v2=>(m2 c (b.length:Int) (call (Z71.R (aU.at b (toNat c))) fun v3=>(cond (c>0) (cA ((0:Int)<=(i64.wrap (c - 1))) (cA ((i64.wrap (c - 1))<(a.length:Int)) (call (Z71.R (aU.at a (toNat (i64.wrap (c - 1))))) fun v4=>ret (((⟨v4,v2,v3⟩:cB),true):cB×Bool)))) (ret (((⟨(⟨(⟨0,0,0,0,0,0,0,0,(⟨[],0⟩:cX),(⟨[],0⟩:cX),0,(⟨[],0⟩:cX),false⟩:bN),[]⟩:aU),v2,v3⟩:cB),true):cB×Bool))))))))))) (m2 c (a.length:Int) (call (Z71.R (aU.at a (toNat c))) fun v5=>(m2 c (b.length:Int) (call (Z71.R (aU.at b (toNat c))) fun v6=>(cond (c>0) (cA ((0:Int)<=(i64.wrap (c - 1))) (cA ((i64.wrap (c - 1))<(a.length:Int)) (call (Z71.R (aU.at a (toNat (i64.wrap (c - 1))))) fun v7=>ret (((⟨v7,v5,v6⟩:cB),true):cB×Bool)))) (ret (((⟨(⟨(⟨0,0,0,0,0,0,0,0,(⟨[],0⟩:cX),(⟨[],0⟩:cX),0,(⟨[],0⟩:cX),false⟩:bN),[]⟩:aU),v5,v6⟩:cB),true):cB×Bool)))))))) (m2 c (a.length:Int) (call (Z71.R (aU.at a (toNat c))) fun v8=>(m2 c (b.length:Int) (call (Z71.R (aU.at b (toNat c))) fun v9=>(cond (c>0) (cA ((0:Int)<=(i64.wrap (c - 1))) (cA ((i64.wrap (c - 1))<(a.length:Int)) (call (Z71.R (aU.at a (toNat (i64.wrap (c - 1))))) fun v10=>ret (((⟨v10,v8,v9⟩:cB),true):cB×Bool)))) (ret (((⟨(⟨(⟨0,0,0,0,0,0,0,0,(⟨[],0⟩:cX),(⟨[],0⟩:cX),0,(⟨[],0⟩:cX),false⟩:bN),[]⟩:aU),v8,v9⟩:cB),true):cB×Bool))))))))
def start (J:Pt->aD)(x0 x1:aq):aD:=(call (Z60.R x0) fun v1=>(cond (!v1) (ret (((⟨(⟨(⟨0,0,0,0,0,0,0,0,(⟨[],0⟩),(⟨[],0⟩),0,(⟨[],0⟩),false⟩),[]⟩),(⟨(⟨0,0,0,0,0,0,0,0,(⟨[],0⟩),(⟨[],0⟩),0,(⟨[],0⟩),false⟩),[]⟩),(⟨(⟨0,0,0,0,0,0,0,0,(⟨[],0⟩),(⟨[],0⟩),0,(⟨[],0⟩),false⟩),[]⟩)⟩),false):cB×Bool)) (call (Z60.R x1) fun v2=>(cond (!v2) (ret (((⟨(⟨(⟨0,0,0,0,0,0,0,0,(⟨[],0⟩),(⟨[],0⟩),0,(⟨[],0⟩),false⟩),[]⟩),(⟨(⟨0,0,0,0,0,0,0,0,(⟨[],0⟩),(⟨[],0⟩),0,(⟨[],0⟩),false⟩),[]⟩),(⟨(⟨0,0,0,0,0,0,0,0,(⟨[],0⟩),(⟨[],0⟩),0,(⟨[],0⟩),false⟩),[]⟩)⟩),false):cB×Bool)) (cA ((0:Int)<x0.length) (cA ((0:Int)<x1.length) (cond ((aU.at x0 0).an.aX != (aU.at x1 0).an.aX) (ret (((⟨(⟨(⟨0,0,0,0,0,0,0,0,(⟨[],0⟩),(⟨[],0⟩),0,(⟨[],0⟩),false⟩),[]⟩),(⟨(⟨0,0,0,0,0,0,0,0,(⟨[],0⟩),(⟨[],0⟩),0,(⟨[],0⟩),false⟩),[]⟩),(⟨(⟨0,0,0,0,0,0,0,0,(⟨[],0⟩),(⟨[],0⟩),0,(⟨[],0⟩),false⟩),[]⟩)⟩),false):cB×Bool)) (call (Z90.R (x0,x1)) fun v3=>(cond v3 (ret (((⟨(⟨(⟨0,0,0,0,0,0,0,0,(⟨[],0⟩),(⟨[],0⟩),0,(⟨[],0⟩),false⟩),[]⟩),(⟨(⟨0,0,0,0,0,0,0,0,(⟨[],0⟩),(⟨[],0⟩),0,(⟨[],0⟩),false⟩),[]⟩),(⟨(⟨0,0,0,0,0,0,0,0,(⟨[],0⟩),(⟨[],0⟩),0,(⟨[],0⟩),false⟩),[]⟩)⟩),false):cB×Bool)) (call (Z90.R (x1,x0)) fun v4=>(cond v4 (ret (((⟨(⟨(⟨0,0,0,0,0,0,0,0,(⟨[],0⟩),(⟨[],0⟩),0,(⟨[],0⟩),false⟩),[]⟩),(⟨(⟨0,0,0,0,0,0,0,0,(⟨[],0⟩),(⟨[],0⟩),0,(⟨[],0⟩),false⟩),[]⟩),(⟨(⟨0,0,0,0,0,0,0,0,(⟨[],0⟩),(⟨[],0⟩),0,(⟨[],0⟩),false⟩),[]⟩)⟩),false):cB×Bool)) (J (.p0 x0 x1 0 0 0 0 0 0 0 0 0 0 0 0 0 false 0 0 0 0 0 0 0 0 0 0 0 0 false 0 0 0 0 0 0 0 0 0 0 0 0 false)))))))))))))
def live:Nat->Live:=gL [(4,jC [0,1,4,6])]
def pt (a b:aq)(c:Int):Pt:=Pt.p0 a b c 0 0 0 0 0 0 0 0 0 0 0 0 false 0 0 0 0 0 0 0 0 0 0 0 0 false 0 0 0 0 0 0 0 0 0 0 0 0 false
def fk:List aa->List aa->Nat
 | x::xs,y::ys=>bif Z89.md x.an y.an then fk xs ys+1 else 0
 | _,_=>0
def rP:∀a b:List aa,(∀i,i<fk a b->Z89.md (a.getD i aa.zero).an (b.getD i aa.zero).an=true)/\
    ((fk a b<a.length/\fk a b<b.length/\Z89.md (a.getD (fk a b) aa.zero).an (b.getD (fk a b) aa.zero).an=false)∨
     (a.length<=b.length/\∀i,i<a.length->Z89.md (a.getD i aa.zero).an (b.getD i aa.zero).an=true)∨
     (b.length<=a.length/\∀i,i<b.length->Z89.md (a.getD i aa.zero).an (b.getD i aa.zero).an=true))
  | [],b=>⟨fun i hi=>by simp [fk] at hi,.inr (.inl ⟨zero_le _,fun i hi=>by simp at hi⟩)⟩
  | x::xs,[]=>⟨fun i hi=>by simp [fk] at hi,.inr (.inr ⟨zero_le _,fun i hi=>by simp at hi⟩)⟩
  | x::xs,y::ys=>by
    obtain ⟨h1,h2⟩:=rP xs ys
    cases h:Z89.md x.an y.an
    · have e:fk (x::xs) (y::ys)=0:=by simp [fk,h]
      rw [e]
      exact ⟨fun i hi=>by omega,.inl ⟨by simp,by simp,h⟩⟩
    · have e:fk (x::xs) (y::ys)=fk xs ys+1:=by simp [fk,h]
      rw [e]
      have up:∀{m:Nat},(∀i,i<m->Z89.md (xs.getD i aa.zero).an (ys.getD i aa.zero).an=true)->∀i,i<m+1->Z89.md ((x::xs).getD i aa.zero).an ((y::ys).getD i aa.zero).an=true:=by
        intro m hm i hi
        cases i with
        | zero=>exact h
        | succ i=>exact hm i (by omega)
      refine ⟨up h1,?_⟩
      rcases h2 with ⟨a,b,c⟩ | ⟨a,b⟩ | ⟨a,b⟩
      · exact .inl ⟨by simpa using a,by simpa using b,c⟩
      · exact .inr (.inl ⟨by simpa using a,up b⟩)
      · exact .inr (.inr ⟨by simpa using a,up b⟩)
def BD {a b:List aa}(hl:a.length<=b.length)(h:∀i,i<a.length->Z89.md (a.getD i aa.zero).an (b.getD i aa.zero).an=true):Z90.md a b=true:=by
 unfold Z90.md
 rw [decide_eq_false (by omega),aR]
 refine (iZ (fun i=>Z89.md (a.getD i aa.zero).an (b.getD i aa.zero).an=true) (fun i _ hi=>?_) (fun i _ hi=>?_)).2 ⟨h,rfl⟩
 ·simp only [hi,Bool.not_true,aR]
 ·rw [Bool.not_eq_true] at hi
  simp only [hi,Bool.not_false,aO]
def eq_comm {a b:au}(h:Z89.md a b=true):Z89.md b a=true:=by
 rw [Z89.md_eq,dO] at h ⊢
 exact h.symm
def qk {a b:List aa}(h1:Z90.md a b=false)(h2:Z90.md b a=false):fk a b<a.length/\fk a b<b.length/\Z89.md (a.getD (fk a b) aa.zero).an (b.getD (fk a b) aa.zero).an=false:=by
 rcases (rP a b).2 with h | ⟨h3,h4⟩ | ⟨h3,h4⟩
 ·exact h
 ·rw [BD h3 h4] at h1;cases h1
 ·rw [BD h3 fun i hi=>eq_comm (h4 i hi)] at h2;cases h2
def Bo (a b:List aa):Nat->aN
 | 0=>⟨aa.zero,a.getD 0 aa.zero,b.getD 0 aa.zero⟩
 | k+1=>⟨a.getD k aa.zero,a.getD (k+1) aa.zero,b.getD (k+1) aa.zero⟩
def zA {a b:List aa}(h0:bg (2^21) (fun y:aa=>aa.Sm (2^21) y) a)(h1:bg (2^21) (fun y:aa=>aa.Sm (2^21) y) b){k:Nat}(hk:k<a.length)(hk2:k<b.length):aN.Sm (2^21) (Bo a b k):=by
 cases k with
 | zero=>exact ⟨⟨⟨bg.nil,bg.nil,bg.nil⟩,bg.nil⟩,bg.getD h0 hk,bg.getD h1 hk2⟩
 | succ k=>exact ⟨bg.getD h0 (by omega),bg.getD h0 hk,bg.getD h1 hk2⟩
def md (a0 a1:List aa):aN×Bool:=(cond (!(Z60.md a0)) (aN.zero,false) (cond (!(Z60.md a1)) (aN.zero,false) (cond (((a0.getD 0 aa.zero).an).aX != ((a1.getD 0 aa.zero).an).aX) (aN.zero,false) (cond (Z90.md a0 a1) (aN.zero,false) (cond (Z90.md a1 a0) (aN.zero,false) (Bo a0 a1 (fk a0 a1),true))))))
def gd (a0 a1:List aa):Prop:=bg (2^21) (fun y:aa=>aa.Sm (2^21) y) a0/\bg (2^21) (fun y:aa=>aa.Sm (2^21) y) a1
def R:=cI gd md
def aj {a0 a1}(h:gd a0 a1):R ((a0.map aa.row),(a1.map aa.row))=some ((aN.r (md a0 a1).1),(md a0 a1).2):=cH h
def aM:=CN [pL 53,pL 53] (.gW [(true,f170),(false,[fB])]) RT.dec R
def bn (a0)(a1)(hg:gd a0 a1):∃n,start (iter step n) (a0.map aa.row) (a1.map aa.row)=ret ((aN.r (md a0 a1).1),(md a0 a1).2):=by
 obtain ⟨H0,H1⟩:=hg
 have hl1:=H1.1
 have key:fk a0 a1<a0.length->fk a0 a1<a1.length->Z89.md (a0.getD (fk a0 a1) aa.zero).an (a1.getD (fk a0 a1) aa.zero).an=false->∀d k,k+d=fk a0 a1->∃n,iter step n (pt (a0.map aa.row) (a1.map aa.row) (k:Int))=ret ((aN.r (Bo a0 a1 (fk a0 a1)),true):cB×Bool):=by
  intro hn0 hn1 hne d
  have hR:∀k,k<a0.length->k<a1.length->Z89.R (au.r (a0.getD k aa.zero).an,au.r (a1.getD k aa.zero).an)=some (Z89.md (a0.getD k aa.zero).an (a1.getD k aa.zero).an):=by
   intro k h0 h1
   rw [Z89.aj ⟨(bg.getD H0 h0).1,(bg.getD H1 h1).1⟩]
  induction d with
  | zero=>
   intro k hk
   obtain rfl:k=fk a0 a1:=by omega
   generalize hkk:fk a0 a1=k at hn0 hn1 hne ⊢
   refine ⟨1,?_⟩
   show step (iter step 0) _=_
   have q1:(0:Int)<=(k:Int):=by omega
   have q2:(k:Int)<(a0.length:Int):=by omega
   have q3:(k:Int)<(a1.length:Int):=by omega
   simp only [pt,step,MM,S0,aa.rs,au.rs,q1,q2,q3,decide_true,aO]
   rw [call_eq (hR k hn0 hn1),hne,aR,call_eq (Z71.aj (bg.getD H0 hn0)),call_eq (Z71.aj (bg.getD H1 hn1))]
   cases k with
   | zero=>rfl
   | succ k=>
    have q4:((k+1:Nat):Int)>0:=by omega
    have q5:i64.wrap (((k+1:Nat):Int) - 1)=(k:Int):=by rw [wi _ (by omega)];omega
    have q6:(0:Int)<=(k:Int):=by omega
    have q7:(k:Int)<(a0.length:Int):=by omega
    simp only [q4,q5,q6,q7,decide_true,aO,S0,aa.rs]
    rw [call_eq (Z71.aj (bg.getD H0 (by omega)))]
    rfl
  | succ d ih=>
   intro k hk
   obtain ⟨n,hn⟩:=ih (k+1) (by omega)
   refine ⟨n+1,?_⟩
   show step (iter step n) _=_
   have q1:(0:Int)<=(k:Int):=by omega
   have q2:(k:Int)<(a0.length:Int):=by omega
   have q3:(k:Int)<(a1.length:Int):=by omega
   simp only [pt,step,MM,S0,aa.rs,au.rs,q1,q2,q3,decide_true,aO]
   rw [call_eq (hR k (by omega) (by omega)),(rP a0 a1).1 k (by omega),aO,wi _ (by omega)]
   exact hn
 unfold start md
 simp only [S0,aa.rs,au.rs]
 refine fu _ (Z60.aj H0) ?_
 cases hc0:Z60.md a0
 ·exact ⟨0,rfl⟩
 simp only [Bool.not_true,aR]
 refine fu _ (Z60.aj H1) ?_
 cases hc1:Z60.md a1
 ·exact ⟨0,rfl⟩
 have t0:=Z60.tr hc0
 have t1:=Z60.tr hc1
 simp only [Bool.not_true,aR]
 refine dP (decide_eq_true (by omega)) (dP (decide_eq_true (by omega)) ?_)
 cases ((a0.getD 0 aa.zero).an.aX != (a1.getD 0 aa.zero).an.aX)
 case true=>exact ⟨0,rfl⟩
 simp only [aR]
 refine fu _ (Z90.aj ⟨H0,H1⟩) ?_
 cases hp0:Z90.md a0 a1
 case true=>exact ⟨0,rfl⟩
 simp only [aR]
 refine fu _ (Z90.aj ⟨H1,H0⟩) ?_
 cases hp1:Z90.md a1 a0
 case true=>exact ⟨0,rfl⟩
 simp only [aR]
 obtain ⟨h1,h2,h3⟩:=qk hp0 hp1
 exact key h1 h2 h3 (fk a0 a1) 0 (by omega)
def af:cj 123 aM:=L2 86 (fun _=>4) cM dQ live step start mix az bn (nP Z60.af Z90.af Z89.af Z71.af) Tryz.func123
def fo {a0 a1:List aa}(hg:gd a0 a1):aN.Sm (2^21) ((md a0 a1).1):=by
 unfold gd at hg;unfold md
 have z:aN.Sm (2^21) aN.zero:=⟨⟨⟨bg.nil,bg.nil,bg.nil⟩,bg.nil⟩,⟨⟨bg.nil,bg.nil,bg.nil⟩,bg.nil⟩,⟨⟨bg.nil,bg.nil,bg.nil⟩,bg.nil⟩⟩
 cases Z60.md a0
 ·exact z
 cases Z60.md a1
 ·exact z
 cases ((a0.getD 0 aa.zero).an.aX != (a1.getD 0 aa.zero).an.aX)
 case true=>exact z
 cases h1:Z90.md a0 a1
 case true=>exact z
 cases h2:Z90.md a1 a0
 case true=>exact z
 obtain ⟨h3,h4,_⟩:=Z92.qk h1 h2
 exact Z92.zA hg.1 hg.2 h3 h4
end Z92
namespace Z93
def F (x0:aW)(x1:aq):aD:=(call (Z87.R x0) fun v1=>(call (Z91.R (x0,x1)) fun v2=>(cond (v2==1) (cond ((x0.ay.length:Int)>=8) (ret ((v1,6):aW×Int)) (call (Z72.R x1) fun v3=>(cA (eK ((v1.ay.length+1)*24)) (ret (((⟨(v1.ay++[[L.sl v3]]),v1.aY⟩),v2):aW×Int))))) (cond (v2==3) (cA ((0:Int)<x1.length) (call (Z88.R (x0,(aU.at x1 0).an.aX)) fun v4=>(call (Z72.R x1) fun v5=>(m2 v4 v1.ay.length (ret (((⟨(List.set v1.ay (toNat v4) [L.sl v5]),v1.aY⟩),v2):aW×Int)))))) (cond (v2==5) (cA ((0:Int)<x1.length) (call (Z88.R (x0,(aU.at x1 0).an.aX)) fun v6=>(m2 v6 x0.ay.length (call (Z92.R ((rK x0.ay (toNat v6)),x1)) fun v7=>(cond v7.2 (cond ((x0.aY.length:Int)<8) (cA (eK ((v1.aY.length+1)*600)) (ret (((⟨v1.ay,(v1.aY++[(cB.enc v7.1)])⟩),v2):aW×Int))) (ret ((v1,v2):aW×Int))) (ret ((v1,v2):aW×Int))))))) (ret ((v1,v2):aW×Int)))))))
def md (a0:ak)(a1:List aa):ak×Int:=(cond ((Z91.md a0 a1)==1) (cond ((a0.ay.length:Int)>=8) (a0,6) ((⟨(a0.ay++[a1]),a0.aY⟩),(Z91.md a0 a1))) (cond ((Z91.md a0 a1)==3) ((⟨(List.set a0.ay (toNat (Z88.md a0 (((a1.getD 0 aa.zero).an).aX))) a1),a0.aY⟩),(Z91.md a0 a1)) (cond ((Z91.md a0 a1)==5) (cond ((Z92.md (a0.ay.getD (toNat (Z88.md a0 (((a1.getD 0 aa.zero).an).aX))) []) a1).2) (cond ((a0.aY.length:Int)<8) ((⟨a0.ay,(a0.aY++[(Z92.md (a0.ay.getD (toNat (Z88.md a0 (((a1.getD 0 aa.zero).an).aX))) []) a1).1])⟩),(Z91.md a0 a1)) (a0,(Z91.md a0 a1))) (a0,(Z91.md a0 a1))) (a0,(Z91.md a0 a1)))))
def gd (a0:ak)(a1:List aa):Prop:=(ak.Sm (2^21) a0)/\(bg (2^21) (fun y:aa=>aa.Sm (2^21) y) a1)
def R:=cI gd md
def aj {a0 a1}(h:gd a0 a1):R ((ak.r a0),(a1.map aa.row))=some ((ak.r (md a0 a1).1),(md a0 a1).2):=cH h
def aM:=CN [.agg wg,pL 53] (.gW [(true,f36),(false,[fI])]) RT.dec R
def bn (a0)(a1)(hg:gd a0 a1):F (ak.r a0) (a1.map aa.row)=ret ((ak.r (md a0 a1).1),(md a0 a1).2):=by
 obtain ⟨H0,H1⟩:=hg
 refine ct (Z87.aj H0) ?_
 simp only [SS]
 refine ct (Z91.aj ⟨H0,H1⟩) ?_
 have fv2_:=Z91.fa a0 a1
 refine bM (fun b:ak×Int=>ret (((ak.r b.1),b.2):aW×Int)) (fun c1=>?_) (fun c1=>?_)
 ·refine bM (fun b:ak×Int=>ret (((ak.r b.1),b.2):aW×Int)) (fun c2=>fz) (fun c2=>?_)
  refine ct (Z72.aj H1) (aG (have:=(H0.1).1;lm) ?_)
  exact fz
 ·refine bM (fun b:ak×Int=>ret (((ak.r b.1),b.2):aW×Int)) (fun c3=>?_) (fun c3=>?_)
  ·have dc3:=c3
   simp only [DC] at dc3
   refine aG dt (ct (Z88.aj H0) ?_)
   have fv4_:=Z88.fa a0 (((a1.getD 0 aa.zero).an).aX)
   refine ct (Z72.aj H1) (aG dt ?_)
   exact aG (have:=(H0.1).1;dt) fz
  ·refine bM (fun b:ak×Int=>ret (((ak.r b.1),b.2):aW×Int)) (fun c4=>?_) (fun c4=>fz)
   have dc4:=c4
   simp only [DC] at dc4
   refine aG dt (ct (Z88.aj H0) ?_)
   have fv6_:=Z88.fa a0 (((a1.getD 0 aa.zero).an).aX)
   refine aG dt (aG (have:=(H0.1).1;dt) ?_)
   refine ct (Z92.aj ⟨(bg.getD H0.1 (by omega)),H1⟩) (bM (fun b:ak×Int=>ret (((ak.r b.1),b.2):aW×Int)) (fun c5=>?_) (fun c5=>fz))
   exact bM (fun b:ak×Int=>ret (((ak.r b.1),b.2):aW×Int)) (fun c6=>aG (have:=(H0.2).1;lm) fz) (fun c6=>fz)
def af:cj 23 aM:=W2 77 F mix az bn (xC Z87.af Z91.af Z72.af Z88.af Z92.af) Tryz.func23
def fo {a0:ak}{a1:List aa}(hg:gd a0 a1):ak.Sm (2^21) ((md a0 a1).1):=by
 unfold gd at hg;unfold md
 obtain ⟨⟨h1,h2⟩,h3⟩:=hg
 simp only [Bool.cond_eq_ite]
 repeat' split
 all_goals (try simp only [decide_eq_true_eq,ge_iff_le] at *)
 all_goals first
  | exact ⟨h1,h2⟩
  | exact ⟨bg.app (a:=7) (b:=1) ⟨by omega,h1.2⟩ (bg.one h3) (by decide),h2⟩
  | exact ⟨bg.set h1 h3,h2⟩
  | exact ⟨h1,bg.app (a:=7) (b:=1) ⟨by omega,h2.2⟩ (bg.one (Z92.fo ⟨bg.yg h1 bg.nil,h3⟩)) (by decide)⟩
end Z93
namespace Z94
def F (x0:aq)(x1 x2:Int):aD:=(call (Z67.R (x0,x1,x2,4)) fun v1=>(cond v1.2.2.2 (call (Z5.R (x0,v1.2.1,v1.2.2.1,[[L.str (⟨#[]⟩:av)],[L.str (⟨#[45,97]⟩:av)],[L.str (⟨#[97,45]⟩:av)],[L.str (⟨#[65]⟩:av)],[L.str (⟨#[97,46,98]⟩:av)],[L.str (⟨#[97,98,99,100,101,102,103,104]⟩:av)],[L.str (⟨#[97,98,99,100,101,102,103,104,105]⟩:av)],[L.str (⟨#[49,108]⟩:av)],[L.str (⟨#[108,49]⟩:av)],[L.str (⟨#[48]⟩:av)]])) fun v2=>ret ((Hl.mk,v2.2.1,v2.2.2.1,v2.2.2.2):Hl×Int×Int×av)) (call (Z6.R (x0,v1.2.1,v1.2.2.1)) fun v3=>ret ((Hl.mk,v3.2.1,v3.2.2.1,v3.2.2.2):Hl×Int×Int×av))))
abbrev eg:List K:=[.sl 5,aE,aE]
def pats:List (Option fF):=[none]
def res:RP:=.one (.rd (.str))
abbrev E:Env:={ T:=assoc mC,G:=cZ [],nt:=10,M:=ff [],np:=(nC eg),mt:=false,I:=gy [(142,Z67.ic (nC eg)),(192,Z5.ic (nC eg)),(237,Z6.ic (nC eg))] }
def run_eq (n:Nat)(ls:List L):eY E (fun _=>[]) Tryz.f201 (.cur eg res.parts) n (iG eg pats ls)=F (eU ls) (cF 1 ls) (cF 2 ls):=by kernel_rfl
def gd (x0:aq)(x1 x2:Int):Prop:=CI x0 x1
def post (x0:aq)(x1 x2:Int)(y:Hl×Int×Int×av):Prop:=CI x0 y.2.1/\y.2.2.2.size<=16
def wp (x0:aq)(x1 x2:Int)(hg:gd x0 x1 x2):Wp (F x0 x1 x2) (post x0 x1 x2):=by
 unfold F
 refine Z67.eJ hg (fun v hv=>wp_cond (fun c=>?_) (fun c=>?_))
 ·refine Z5.eJ ⟨hv,by show 0<10;decide⟩ (fun w ⟨hw,i,hi,e⟩=>wp_ret ⟨hw,?_⟩)
  show w.2.2.2.size<=16
  rw [e]
  exact qg rfl hi
 ·exact Z6.eJ hv (fun w hw=>wp_ret hw)
def R:(aq×Int×Int)->Option (Hl×Int×Int×av):=RQ (fun _ x=>F x.1 x.2.1 x.2.2) (fun x=>post x.1 x.2.1 x.2.2)
def eJ {x0:aq}{x1 x2:Int}{γ:Type}[RT γ]{k:(Hl×Int×Int×av)->aD}{Q:γ->Prop}(hg:gd x0 x1 x2)(hk:∀y,post x0 x1 x2 y->Wp (k y) Q):Wp (call (R (x0,x1,x2)) k) Q:=gq ⟨0,wp x0 x1 x2 hg⟩ hk
def acc (ls:List L):aq×Int×Int:=((eU ls),(cF 1 ls),(cF 2 ls))
def aM:jO:=CC eg pats res acc R
def af:gD Tryz.prog Ev 201 aM:=VC (live:=(fun _=>[])) (mt:=false) mix az .nil .nil (.cons (Z67.bR (nC eg)) (.cons (Z5.bR (nC eg)) (.cons (Z6.bR (nC eg)) .nil))) Tryz.func201 (by kernel_rfl) run_eq
def ic (_:Nat):gA:=kg Ev aM
def bR (n:Nat):dX Tryz.prog Ev n 201 (ic n):=eR af
end Z94
namespace Z95
def F (x0:aq)(x1 x2:Int):aD:=(call (Z5.R (x0,x1,x2,[[L.str (⟨#[115,104,111,112]⟩:av)],[L.str (⟨#[109,97,105,108]⟩:av)],[L.str (⟨#[97,110,110]⟩:av)],[L.str (⟨#[98,111,98]⟩:av)],[L.str (⟨#[115,104,111,112]⟩:av)],[L.str (⟨#[98,97,110,107]⟩:av)]])) fun v1=>(call (Z67.R (x0,v1.2.1,v1.2.2.1,2)) fun v2=>(cond v2.2.2.2 (call (Z6.R (x0,v2.2.1,v2.2.2.1)) fun v3=>(cA (eK (((1:Int)+1)*16)) (call (Z67.R (x0,v3.2.1,v3.2.2.1,8)) fun v4=>(cond v4.2.2.2 (call (Z94.R (x0,v4.2.1,v4.2.2.1)) fun v5=>(cA (eK (((2:Int)+1)*16)) (ret ((Hl.mk,v5.2.1,v5.2.2.1,[[L.str v1.2.2.2],[L.str v3.2.2.2],[L.str v5.2.2.2]]):Hl×Int×Int×aq)))) (ret ((Hl.mk,v4.2.1,v4.2.2.1,[[L.str v1.2.2.2],[L.str v3.2.2.2]]):Hl×Int×Int×aq)))))) (call (Z67.R (x0,v2.2.1,v2.2.2.1,8)) fun v6=>(cond v6.2.2.2 (call (Z94.R (x0,v6.2.1,v6.2.2.1)) fun v7=>(cA (eK (((1:Int)+1)*16)) (ret ((Hl.mk,v7.2.1,v7.2.2.1,[[L.str v1.2.2.2],[L.str v7.2.2.2]]):Hl×Int×Int×aq)))) (ret ((Hl.mk,v6.2.1,v6.2.2.1,[[L.str v1.2.2.2]]):Hl×Int×Int×aq)))))))
abbrev eg:List K:=[.sl 5,aE,aE]
def pats:List (Option fF):=[none]
def res:RP:=.one (.fr 9)
abbrev E:Env:={ T:=assoc mC,G:=cZ [],nt:=23,M:=ff [],np:=(nC eg),mt:=false,I:=gy [(192,Z5.ic (nC eg)),(142,Z67.ic (nC eg)),(237,Z6.ic (nC eg)),(201,Z94.ic (nC eg))] }
def run_eq (n:Nat)(ls:List L):eY E (fun _=>[]) Tryz.f180 (.cur eg res.parts) n (iG eg pats ls)=F (eU ls) (cF 1 ls) (cF 2 ls):=by kernel_rfl
def gd (x0:aq)(x1 x2:Int):Prop:=CI x0 x1
def post (x0:aq)(x1 x2:Int)(y:Hl×Int×Int×aq):Prop:=CI x0 y.2.1/\∃m:List av,y.2.2.2=m.map dL/\bg 8 (fun y:av=>y.size<=16) m
def wp (x0:aq)(x1 x2:Int)(hg:gd x0 x1 x2):Wp (F x0 x1 x2) (post x0 x1 x2):=by
 unfold F
 refine Z5.eJ ⟨hg,by show 0<6;decide⟩ (fun v ⟨hv,i,hi,e⟩=>?_)
 have hs:v.2.2.2.size<=16:=by rw [e];exact qg rfl hi
 clear e
 have l1:∀{a:av},a.size<=16->bg 8 (fun y:av=>y.size<=16) [a]:=fun h=>⟨by simp,fun y hy=>by simp at hy;subst hy;exact h⟩
 have l2:∀{a b:av},a.size<=16->b.size<=16->bg 8 (fun y:av=>y.size<=16) [a,b]:=fun h k=>⟨by simp,fun y hy=>by simp at hy;rcases hy with rfl | rfl<;>assumption⟩
 have l3:∀{a b c:av},a.size<=16->b.size<=16->c.size<=16->bg 8 (fun y:av=>y.size<=16) [a,b,c]:=fun h k j=>⟨by simp,fun y hy=>by simp at hy;rcases hy with rfl | rfl | rfl<;>assumption⟩
 refine Z67.eJ hv (fun w hw=>wp_cond (fun _=>?_) (fun _=>?_))
 ·refine Z6.eJ hw (fun z ⟨hz,h1⟩=>fE (gC (by decide)) (Z67.eJ hz (fun t ht=>wp_cond (fun _=>?_) (fun _=>?_))))
  ·exact Z94.eJ ht (fun q ⟨hq,h2⟩=>fE (gC (by decide)) (wp_ret ⟨hq,[v.2.2.2,z.2.2.2,q.2.2.2],rfl,l3 hs h1 h2⟩))
  ·exact wp_ret ⟨ht,[v.2.2.2,z.2.2.2],rfl,l2 hs h1⟩
 ·refine Z67.eJ hw (fun t ht=>wp_cond (fun _=>?_) (fun _=>?_))
  ·exact Z94.eJ ht (fun q ⟨hq,h2⟩=>fE (gC (by decide)) (wp_ret ⟨hq,[v.2.2.2,q.2.2.2],rfl,l2 hs h2⟩))
  ·exact wp_ret ⟨ht,[v.2.2.2],rfl,l1 hs⟩
def R:(aq×Int×Int)->Option (Hl×Int×Int×aq):=RQ (fun _ x=>F x.1 x.2.1 x.2.2) (fun x=>post x.1 x.2.1 x.2.2)
def eJ {x0:aq}{x1 x2:Int}{γ:Type}[RT γ]{k:(Hl×Int×Int×aq)->aD}{Q:γ->Prop}(hg:gd x0 x1 x2)(hk:∀y,post x0 x1 x2 y->Wp (k y) Q):Wp (call (R (x0,x1,x2)) k) Q:=gq ⟨0,wp x0 x1 x2 hg⟩ hk
def acc (ls:List L):aq×Int×Int:=((eU ls),(cF 1 ls),(cF 2 ls))
def aM:jO:=CC eg pats res acc R
def af:gD Tryz.prog Ev 180 aM:=VC (live:=(fun _=>[])) (mt:=false) mix az .nil .nil (.cons (Z5.bR (nC eg)) (.cons (Z67.bR (nC eg)) (.cons (Z6.bR (nC eg)) (.cons (Z94.bR (nC eg)) .nil)))) Tryz.func180 (by kernel_rfl) run_eq
def ic (_:Nat):gA:=kg Ev aM
def bR (n:Nat):dX Tryz.prog Ev n 180 (ic n):=eR af
end Z95
end Go.DM
end
