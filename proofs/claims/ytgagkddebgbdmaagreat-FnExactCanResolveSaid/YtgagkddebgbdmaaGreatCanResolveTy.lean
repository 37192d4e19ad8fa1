/- The structures of the program, as mathematical records. Conditions: none. -/
import Derived.Test.YtgagkddebgbdmaaGreatCanResolveDd
set_option linter.all false
noncomputable section
namespace Go.DM
structure bC where
 aU:aF
 cV:Int
structure aL where
 aU:List Int
 cV:Int
def bC.enc (x:bC):List L:=[.sl x.aU,.int x.cV]
def bC.dec (r:List L):bC:=⟨((av 0 r).headD .hole).aY,((av 1 r).headD .hole).toInt⟩
instance :RT bC:=⟨bC.enc,bC.dec,2,fun _ _=>rfl,fun _ _=>rfl⟩
def bC.at (xs:aF)(i:Nat):bC:=bC.dec (List.getD xs i [])
def aL.r (x:aL):bC:=⟨(x.aU.map bn),x.cV⟩
def aL.row (x:aL):List L:=bC.enc x.r
def aL.zero:aL:=⟨[],0⟩
def aL.cS {a b:aL}(h:a.r=b.r):a=b:=by
 cases a;cases b
 simp only [aL.r,bC.mk.injEq] at h
 obtain ⟨h0,h1⟩:=h
 simp only [aL.mk.injEq]
 exact ⟨(map_inj lN h0),h1⟩
def aL.cN {a b:aL}(h:aL.row a=aL.row b):a=b:=aL.cS (congrArg bC.dec h)
def aL.cZ {xs:List aL}{i:Nat}:bC.at (xs.map aL.row) i=(xs.getD i aL.zero).r:=eN (r:=fun x=>aL.r x) (fun _=>rfl) rfl
def aL.tB (x:aL):(aL.r x).aU=(x.aU.map bn):=Eq.trans rfl rfl
def aL.Aa (x:aL):(aL.r x).cV=x.cV:=Eq.trans rfl rfl
instance :Row aL:=⟨aL.row,aL.cN⟩
instance :Im aL bC:=⟨aL.r,aL.cS⟩
def aL.rs:(∀(xs:List aL) (i:Nat),bC.at (xs.map aL.row) i=(xs.getD i aL.zero).r)/\(∀x:aL,(aL.r x).aU=(x.aU.map bn))/\(∀x:aL,(aL.r x).cV=x.cV):=⟨fun _ _=>aL.cZ,aL.tB,aL.Aa⟩
def aL.Sm (n:Nat)(x:aL):Prop:=bI n (fun y:Int=>True) x.aU
def aL.size (x:aL):Nat:=fc (fun y:Int=>0) x.aU
def aL.cM {n m:Nat}(hn:n<=m){x:aL}(h:aL.Sm n x):aL.Sm m x:=h.mono hn (fun x hx=>trivial)
def aL.eY {n:Nat}{x:aL}(h:x.size<=n):aL.Sm n x:=by
 unfold aL.size at h
 have g0:fc (fun y:Int=>0) x.aU<=n:=by omega
 exact jR g0 (fun x hx=>trivial)
structure bW where
 bw:Int
 cG:Int
 bL:Int
 cE:Int
 cD:Int
 cB:Int
 dg:Int
 dN:Int
 cg:bC
 bN:bC
 dy:Int
 bK:bC
 bF:Bool
structure aE where
 bw:Int
 cG:Int
 bL:Int
 cE:Int
 cD:Int
 cB:Int
 dg:Int
 dN:Int
 cg:aL
 bN:aL
 dy:Int
 bK:aL
 bF:Bool
def bW.enc (x:bW):List L:=[.int x.bw,.int x.cG,.int x.bL,.int x.cE,.int x.cD,.int x.cB,.int x.dg,.int x.dN,.sl x.cg.aU,.int x.cg.cV,.sl x.bN.aU,.int x.bN.cV,.int x.dy,.sl x.bK.aU,.int x.bK.cV,.bool x.bF]
def bW.dec (r:List L):bW:=⟨((av 0 r).headD .hole).toInt,((av 1 r).headD .hole).toInt,((av 2 r).headD .hole).toInt,((av 3 r).headD .hole).toInt,((av 4 r).headD .hole).toInt,((av 5 r).headD .hole).toInt,((av 6 r).headD .hole).toInt,((av 7 r).headD .hole).toInt,⟨((av 8 r).headD .hole).aY,((av 9 r).headD .hole).toInt⟩,⟨((av 10 r).headD .hole).aY,((av 11 r).headD .hole).toInt⟩,((av 12 r).headD .hole).toInt,⟨((av 13 r).headD .hole).aY,((av 14 r).headD .hole).toInt⟩,((av 15 r).headD .hole).toBool⟩
instance :RT bW:=⟨bW.enc,bW.dec,16,fun _ _=>rfl,fun _ _=>rfl⟩
def bW.at (xs:aF)(i:Nat):bW:=bW.dec (List.getD xs i [])
def aE.r (x:aE):bW:=⟨x.bw,x.cG,x.bL,x.cE,x.cD,x.cB,x.dg,x.dN,(aL.r x.cg),(aL.r x.bN),x.dy,(aL.r x.bK),x.bF⟩
def aE.row (x:aE):List L:=bW.enc x.r
def aE.zero:aE:=⟨0,0,0,0,0,0,0,0,aL.zero,aL.zero,0,aL.zero,false⟩
def aE.cS {a b:aE}(h:a.r=b.r):a=b:=by
 cases a;cases b
 simp only [aE.r,bW.mk.injEq] at h
 obtain ⟨h0,h1,h2,h3,h4,h5,h6,h7,h8,h9,h10,h11,h12⟩:=h
 simp only [aE.mk.injEq]
 exact ⟨h0,h1,h2,h3,h4,h5,h6,h7,(aL.cS h8),(aL.cS h9),h10,(aL.cS h11),h12⟩
def aE.cN {a b:aE}(h:aE.row a=aE.row b):a=b:=aE.cS (congrArg bW.dec h)
def aE.cZ {xs:List aE}{i:Nat}:bW.at (xs.map aE.row) i=(xs.getD i aE.zero).r:=eN (r:=fun x=>aE.r x) (fun _=>rfl) rfl
def aE.tM (x:aE):(aE.r x).bw=x.bw:=Eq.trans rfl rfl
def aE.yf (x:aE):(aE.r x).cG=x.cG:=Eq.trans rfl rfl
def aE.tS (x:aE):(aE.r x).bL=x.bL:=Eq.trans rfl rfl
def aE.Af (x:aE):(aE.r x).cE=x.cE:=Eq.trans rfl rfl
def aE.yZ (x:aE):(aE.r x).cD=x.cD:=Eq.trans rfl rfl
def aE.yK (x:aE):(aE.r x).cB=x.cB:=Eq.trans rfl rfl
def aE.zV (x:aE):(aE.r x).dg=x.dg:=Eq.trans rfl rfl
def aE.zS (x:aE):(aE.r x).dN=x.dN:=Eq.trans rfl rfl
def aE.zv (x:aE):(aE.r x).cg=(aL.r x.cg):=Eq.trans rfl rfl
def aE.yS (x:aE):(aE.r x).bN=(aL.r x.bN):=Eq.trans rfl rfl
def aE.zR (x:aE):(aE.r x).dy=x.dy:=Eq.trans rfl rfl
def aE.yO (x:aE):(aE.r x).bK=(aL.r x.bK):=Eq.trans rfl rfl
def aE.wV (x:aE):(aE.r x).bF=x.bF:=Eq.trans rfl rfl
instance :Row aE:=⟨aE.row,aE.cN⟩
instance :Im aE bW:=⟨aE.r,aE.cS⟩
def aE.rs:(∀(xs:List aE) (i:Nat),bW.at (xs.map aE.row) i=(xs.getD i aE.zero).r)/\(∀x:aE,(aE.r x).bw=x.bw)/\(∀x:aE,(aE.r x).cG=x.cG)/\(∀x:aE,(aE.r x).bL=x.bL)/\(∀x:aE,(aE.r x).cE=x.cE)/\(∀x:aE,(aE.r x).cD=x.cD)/\(∀x:aE,(aE.r x).cB=x.cB)/\(∀x:aE,(aE.r x).dg=x.dg)/\(∀x:aE,(aE.r x).dN=x.dN)/\(∀x:aE,(aE.r x).cg=(aL.r x.cg))/\(∀x:aE,(aE.r x).bN=(aL.r x.bN))/\(∀x:aE,(aE.r x).dy=x.dy)/\(∀x:aE,(aE.r x).bK=(aL.r x.bK))/\(∀x:aE,(aE.r x).bF=x.bF):=⟨fun _ _=>aE.cZ,aE.tM,aE.yf,aE.tS,aE.Af,aE.yZ,aE.yK,aE.zV,aE.zS,aE.zv,aE.yS,aE.zR,aE.yO,aE.wV⟩
def aE.Sm (n:Nat)(x:aE):Prop:=aL.Sm n x.cg/\aL.Sm n x.bN/\aL.Sm n x.bK
def aE.size (x:aE):Nat:=aL.size x.cg+aL.size x.bN+aL.size x.bK
def aE.cM {n m:Nat}(hn:n<=m){x:aE}(h:aE.Sm n x):aE.Sm m x:=⟨aL.cM hn h.1,aL.cM hn h.2.1,aL.cM hn h.2.2⟩
def aE.eY {n:Nat}{x:aE}(h:x.size<=n):aE.Sm n x:=by
 unfold aE.size at h
 have g0:aL.size x.cg<=n:=by omega
 have g1:aL.size x.bN<=n:=by omega
 have g2:aL.size x.bK<=n:=by omega
 exact ⟨aL.eY g0,aL.eY g1,aL.eY g2⟩
structure bz where
 gT:Int
 jP:Int
def bz.enc (x:bz):List L:=[.int x.gT,.int x.jP]
def bz.dec (r:List L):bz:=⟨((av 0 r).headD .hole).toInt,((av 1 r).headD .hole).toInt⟩
instance :RT bz:=⟨bz.enc,bz.dec,2,fun _ _=>rfl,fun _ _=>rfl⟩
def bz.at (xs:aF)(i:Nat):bz:=bz.dec (List.getD xs i [])
def bz.row (x:bz):List L:=bz.enc x
def bz.zero:bz:=⟨0,0⟩
def bz.cN {a b:bz}(h:bz.row a=bz.row b):a=b:=congrArg bz.dec h
def bz.ga {xs:List bz}{i:Nat}(h:i<xs.length):bz.at (xs.map bz.row) i=xs[i]:=by unfold bz.at;rw [getD_map h];rfl
def bz.cZ {xs:List bz}{i:Nat}:bz.at (xs.map bz.row) i=xs.getD i bz.zero:=eN (r:=fun x=>x) (fun _=>rfl) rfl
def bz.eqc (a b:bz):(eu a.gT b.gT&&(eu a.jP b.jP&&true))=eu a b:=by
 cases a;cases b
 rw [Bool.eq_iff_iff]
 simp only [cU,Bool.and_eq_true,bz.mk.injEq,and_true]
instance :Row bz:=⟨bz.row,bz.cN⟩
instance :Im bz bz:=⟨fun x=>x,fun h=>h⟩
def bz.rs:(∀(xs:List bz) (i:Nat),bz.at (xs.map bz.row) i=xs.getD i bz.zero):=fun _ _=>bz.cZ
def bz.Sm (n:Nat)(x:bz):Prop:=True
def bz.size (x:bz):Nat:=0
def bz.cM {n m:Nat}(_:n<=m){x:bz}(_:bz.Sm n x):bz.Sm m x:=trivial
def bz.eY {n:Nat}{x:bz}(_:x.size<=n):bz.Sm n x:=trivial
structure aT where
 ay:bW
 cT:aF
structure aa where
 ay:aE
 cT:List bz
def aT.enc (x:aT):List L:=[.int x.ay.bw,.int x.ay.cG,.int x.ay.bL,.int x.ay.cE,.int x.ay.cD,.int x.ay.cB,.int x.ay.dg,.int x.ay.dN,.sl x.ay.cg.aU,.int x.ay.cg.cV,.sl x.ay.bN.aU,.int x.ay.bN.cV,.int x.ay.dy,.sl x.ay.bK.aU,.int x.ay.bK.cV,.bool x.ay.bF,.sl x.cT]
def aT.dec (r:List L):aT:=⟨⟨((av 0 r).headD .hole).toInt,((av 1 r).headD .hole).toInt,((av 2 r).headD .hole).toInt,((av 3 r).headD .hole).toInt,((av 4 r).headD .hole).toInt,((av 5 r).headD .hole).toInt,((av 6 r).headD .hole).toInt,((av 7 r).headD .hole).toInt,⟨((av 8 r).headD .hole).aY,((av 9 r).headD .hole).toInt⟩,⟨((av 10 r).headD .hole).aY,((av 11 r).headD .hole).toInt⟩,((av 12 r).headD .hole).toInt,⟨((av 13 r).headD .hole).aY,((av 14 r).headD .hole).toInt⟩,((av 15 r).headD .hole).toBool⟩,((av 16 r).headD .hole).aY⟩
instance :RT aT:=⟨aT.enc,aT.dec,17,fun _ _=>rfl,fun _ _=>rfl⟩
def aT.at (xs:aF)(i:Nat):aT:=aT.dec (List.getD xs i [])
def aa.r (x:aa):aT:=⟨(aE.r x.ay),(x.cT.map bz.row)⟩
def aa.row (x:aa):List L:=aT.enc x.r
def aa.zero:aa:=⟨aE.zero,[]⟩
def aa.cS {a b:aa}(h:a.r=b.r):a=b:=by
 cases a;cases b
 simp only [aa.r,aT.mk.injEq] at h
 obtain ⟨h0,h1⟩:=h
 simp only [aa.mk.injEq]
 exact ⟨(aE.cS h0),(map_inj bz.cN h1)⟩
def aa.cN {a b:aa}(h:aa.row a=aa.row b):a=b:=aa.cS (congrArg aT.dec h)
def aa.ga {xs:List aa}{i:Nat}(h:i<xs.length):aT.at (xs.map aa.row) i=(xs[i]).r:=by unfold aT.at;rw [getD_map h];rfl
def aa.cZ {xs:List aa}{i:Nat}:aT.at (xs.map aa.row) i=(xs.getD i aa.zero).r:=eN (r:=fun x=>aa.r x) (fun _=>rfl) rfl
def aa.Ac (x:aa):(aa.r x).ay=(aE.r x.ay):=Eq.trans rfl rfl
def aa.zq (x:aa):(aa.r x).cT=(x.cT.map bz.row):=Eq.trans rfl rfl
instance :Row aa:=⟨aa.row,aa.cN⟩
instance :Im aa aT:=⟨aa.r,aa.cS⟩
def aa.rs:(∀(xs:List aa) (i:Nat),aT.at (xs.map aa.row) i=(xs.getD i aa.zero).r)/\(∀x:aa,(aa.r x).ay=(aE.r x.ay))/\(∀x:aa,(aa.r x).cT=(x.cT.map bz.row)):=⟨fun _ _=>aa.cZ,aa.Ac,aa.zq⟩
def aa.Sm (n:Nat)(x:aa):Prop:=aE.Sm n x.ay/\bI n (fun y:bz=>bz.Sm n y) x.cT
def aa.size (x:aa):Nat:=aE.size x.ay+fc (fun y:bz=>bz.size y) x.cT
def aa.cM {n m:Nat}(hn:n<=m){x:aa}(h:aa.Sm n x):aa.Sm m x:=⟨aE.cM hn h.1,h.2.mono hn (fun x hx=>bz.cM hn hx)⟩
def aa.eY {n:Nat}{x:aa}(h:x.size<=n):aa.Sm n x:=by
 unfold aa.size at h
 have g0:aE.size x.ay<=n:=by omega
 have g1:fc (fun y:bz=>bz.size y) x.cT<=n:=by omega
 exact ⟨aE.eY g0,jR g1 (fun x hx=>bz.eY hx)⟩
structure cu where
 aX:aT
 fA:aT
 fB:aT
structure aI where
 aX:aa
 fA:aa
 fB:aa
def cu.enc (x:cu):List L:=[.int x.aX.ay.bw,.int x.aX.ay.cG,.int x.aX.ay.bL,.int x.aX.ay.cE,.int x.aX.ay.cD,.int x.aX.ay.cB,.int x.aX.ay.dg,.int x.aX.ay.dN,.sl x.aX.ay.cg.aU,.int x.aX.ay.cg.cV,.sl x.aX.ay.bN.aU,.int x.aX.ay.bN.cV,.int x.aX.ay.dy,.sl x.aX.ay.bK.aU,.int x.aX.ay.bK.cV,.bool x.aX.ay.bF,.sl x.aX.cT,.int x.fA.ay.bw,.int x.fA.ay.cG,.int x.fA.ay.bL,.int x.fA.ay.cE,.int x.fA.ay.cD,.int x.fA.ay.cB,.int x.fA.ay.dg,.int x.fA.ay.dN,.sl x.fA.ay.cg.aU,.int x.fA.ay.cg.cV,.sl x.fA.ay.bN.aU,.int x.fA.ay.bN.cV,.int x.fA.ay.dy,.sl x.fA.ay.bK.aU,.int x.fA.ay.bK.cV,.bool x.fA.ay.bF,.sl x.fA.cT,.int x.fB.ay.bw,.int x.fB.ay.cG,.int x.fB.ay.bL,.int x.fB.ay.cE,.int x.fB.ay.cD,.int x.fB.ay.cB,.int x.fB.ay.dg,.int x.fB.ay.dN,.sl x.fB.ay.cg.aU,.int x.fB.ay.cg.cV,.sl x.fB.ay.bN.aU,.int x.fB.ay.bN.cV,.int x.fB.ay.dy,.sl x.fB.ay.bK.aU,.int x.fB.ay.bK.cV,.bool x.fB.ay.bF,.sl x.fB.cT]
def cu.dec (r:List L):cu:=⟨⟨⟨((av 0 r).headD .hole).toInt,((av 1 r).headD .hole).toInt,((av 2 r).headD .hole).toInt,((av 3 r).headD .hole).toInt,((av 4 r).headD .hole).toInt,((av 5 r).headD .hole).toInt,((av 6 r).headD .hole).toInt,((av 7 r).headD .hole).toInt,⟨((av 8 r).headD .hole).aY,((av 9 r).headD .hole).toInt⟩,⟨((av 10 r).headD .hole).aY,((av 11 r).headD .hole).toInt⟩,((av 12 r).headD .hole).toInt,⟨((av 13 r).headD .hole).aY,((av 14 r).headD .hole).toInt⟩,((av 15 r).headD .hole).toBool⟩,((av 16 r).headD .hole).aY⟩,⟨⟨((av 17 r).headD .hole).toInt,((av 18 r).headD .hole).toInt,((av 19 r).headD .hole).toInt,((av 20 r).headD .hole).toInt,((av 21 r).headD .hole).toInt,((av 22 r).headD .hole).toInt,((av 23 r).headD .hole).toInt,((av 24 r).headD .hole).toInt,⟨((av 25 r).headD .hole).aY,((av 26 r).headD .hole).toInt⟩,⟨((av 27 r).headD .hole).aY,((av 28 r).headD .hole).toInt⟩,((av 29 r).headD .hole).toInt,⟨((av 30 r).headD .hole).aY,((av 31 r).headD .hole).toInt⟩,((av 32 r).headD .hole).toBool⟩,((av 33 r).headD .hole).aY⟩,⟨⟨((av 34 r).headD .hole).toInt,((av 35 r).headD .hole).toInt,((av 36 r).headD .hole).toInt,((av 37 r).headD .hole).toInt,((av 38 r).headD .hole).toInt,((av 39 r).headD .hole).toInt,((av 40 r).headD .hole).toInt,((av 41 r).headD .hole).toInt,⟨((av 42 r).headD .hole).aY,((av 43 r).headD .hole).toInt⟩,⟨((av 44 r).headD .hole).aY,((av 45 r).headD .hole).toInt⟩,((av 46 r).headD .hole).toInt,⟨((av 47 r).headD .hole).aY,((av 48 r).headD .hole).toInt⟩,((av 49 r).headD .hole).toBool⟩,((av 50 r).headD .hole).aY⟩⟩
instance :RT cu:=⟨cu.enc,cu.dec,51,fun _ _=>rfl,fun _ _=>rfl⟩
def cu.at (xs:aF)(i:Nat):cu:=cu.dec (List.getD xs i [])
def aI.r (x:aI):cu:=⟨(aa.r x.aX),(aa.r x.fA),(aa.r x.fB)⟩
def aI.row (x:aI):List L:=cu.enc x.r
def aI.zero:aI:=⟨aa.zero,aa.zero,aa.zero⟩
def aI.cS {a b:aI}(h:a.r=b.r):a=b:=by
 cases a;cases b
 simp only [aI.r,cu.mk.injEq] at h
 obtain ⟨h0,h1,h2⟩:=h
 simp only [aI.mk.injEq]
 exact ⟨(aa.cS h0),(aa.cS h1),(aa.cS h2)⟩
def aI.cN {a b:aI}(h:aI.row a=aI.row b):a=b:=aI.cS (congrArg cu.dec h)
def aI.ga {xs:List aI}{i:Nat}(h:i<xs.length):cu.at (xs.map aI.row) i=(xs[i]).r:=by unfold cu.at;rw [getD_map h];rfl
def aI.cZ {xs:List aI}{i:Nat}:cu.at (xs.map aI.row) i=(xs.getD i aI.zero).r:=eN (r:=fun x=>aI.r x) (fun _=>rfl) rfl
def aI.oC (x:aI):(aI.r x).aX=(aa.r x.aX):=Eq.trans rfl rfl
def aI.B0 (x:aI):(aI.r x).fA=(aa.r x.fA):=Eq.trans rfl rfl
def aI.B9 (x:aI):(aI.r x).fB=(aa.r x.fB):=Eq.trans rfl rfl
instance :Row aI:=⟨aI.row,aI.cN⟩
instance :Im aI cu:=⟨aI.r,aI.cS⟩
def aI.rs:(∀(xs:List aI) (i:Nat),cu.at (xs.map aI.row) i=(xs.getD i aI.zero).r)/\(∀x:aI,(aI.r x).aX=(aa.r x.aX))/\(∀x:aI,(aI.r x).fA=(aa.r x.fA))/\(∀x:aI,(aI.r x).fB=(aa.r x.fB)):=⟨fun _ _=>aI.cZ,aI.oC,aI.B0,aI.B9⟩
def aI.Sm (n:Nat)(x:aI):Prop:=aa.Sm n x.aX/\aa.Sm n x.fA/\aa.Sm n x.fB
def aI.size (x:aI):Nat:=aa.size x.aX+aa.size x.fA+aa.size x.fB
def aI.cM {n m:Nat}(hn:n<=m){x:aI}(h:aI.Sm n x):aI.Sm m x:=⟨aa.cM hn h.1,aa.cM hn h.2.1,aa.cM hn h.2.2⟩
def aI.eY {n:Nat}{x:aI}(h:x.size<=n):aI.Sm n x:=by
 unfold aI.size at h
 have g0:aa.size x.aX<=n:=by omega
 have g1:aa.size x.fA<=n:=by omega
 have g2:aa.size x.fB<=n:=by omega
 exact ⟨aa.eY g0,aa.eY g1,aa.eY g2⟩
structure bt where
 aK:aF
 bq:aF
structure an where
 aK:List (List aa)
 bq:List aI
def bt.enc (x:bt):List L:=[.sl x.aK,.sl x.bq]
def bt.dec (r:List L):bt:=⟨((av 0 r).headD .hole).aY,((av 1 r).headD .hole).aY⟩
instance :RT bt:=⟨bt.enc,bt.dec,2,fun _ _=>rfl,fun _ _=>rfl⟩
def bt.at (xs:aF)(i:Nat):bt:=bt.dec (List.getD xs i [])
def an.r (x:an):bt:=⟨(x.aK.map (eL aa.row)),(x.bq.map aI.row)⟩
def an.row (x:an):List L:=bt.enc x.r
def an.zero:an:=⟨[],[]⟩
def an.cS {a b:an}(h:a.r=b.r):a=b:=by
 cases a;cases b
 simp only [an.r,bt.mk.injEq] at h
 obtain ⟨h0,h1⟩:=h
 simp only [an.mk.injEq]
 exact ⟨(map_inj (vf aa.cN) h0),(map_inj aI.cN h1)⟩
def an.cN {a b:an}(h:an.row a=an.row b):a=b:=an.cS (congrArg bt.dec h)
def an.cZ {xs:List an}{i:Nat}:bt.at (xs.map an.row) i=(xs.getD i an.zero).r:=eN (r:=fun x=>an.r x) (fun _=>rfl) rfl
def an.wZ (x:an):(an.r x).aK=(x.aK.map (eL aa.row)):=Eq.trans rfl rfl
def an.yT (x:an):(an.r x).bq=(x.bq.map aI.row):=Eq.trans rfl rfl
instance :Row an:=⟨an.row,an.cN⟩
instance :Im an bt:=⟨an.r,an.cS⟩
def an.rs:(∀(xs:List an) (i:Nat),bt.at (xs.map an.row) i=(xs.getD i an.zero).r)/\(∀x:an,(an.r x).aK=(x.aK.map (eL aa.row)))/\(∀x:an,(an.r x).bq=(x.bq.map aI.row)):=⟨fun _ _=>an.cZ,an.wZ,an.yT⟩
def an.Sm (n:Nat)(x:an):Prop:=bI n (fun y:List aa=>bI n (fun y:aa=>aa.Sm n y) y) x.aK/\bI n (fun y:aI=>aI.Sm n y) x.bq
def an.size (x:an):Nat:=fc (fun y:List aa=>fc (fun y:aa=>aa.size y) y) x.aK+fc (fun y:aI=>aI.size y) x.bq
def an.cM {n m:Nat}(hn:n<=m){x:an}(h:an.Sm n x):an.Sm m x:=⟨h.1.mono hn (fun x hx=>hx.mono hn (fun x hx=>aa.cM hn hx)),h.2.mono hn (fun x hx=>aI.cM hn hx)⟩
def an.eY {n:Nat}{x:an}(h:x.size<=n):an.Sm n x:=by
 unfold an.size at h
 have g0:fc (fun y:List aa=>fc (fun y:aa=>aa.size y) y) x.aK<=n:=by omega
 have g1:fc (fun y:aI=>aI.size y) x.bq<=n:=by omega
 exact ⟨jR g0 (fun x hx=>jR hx (fun x hx=>aa.eY hx)),jR g1 (fun x hx=>aI.eY hx)⟩
structure aW where
 aQ:aA
 bL:Int
 bX:Int
 bB:aF
structure ah where
 aQ:aA
 bL:Int
 bX:Int
 bB:List aA
def aW.enc (x:aW):List L:=[.str x.aQ,.int x.bL,.int x.bX,.sl x.bB]
def aW.dec (r:List L):aW:=⟨((av 0 r).headD .hole).toStr,((av 1 r).headD .hole).toInt,((av 2 r).headD .hole).toInt,((av 3 r).headD .hole).aY⟩
instance :RT aW:=⟨aW.enc,aW.dec,4,fun _ _=>rfl,fun _ _=>rfl⟩
def aW.at (xs:aF)(i:Nat):aW:=aW.dec (List.getD xs i [])
def ah.r (x:ah):aW:=⟨x.aQ,x.bL,x.bX,(x.bB.map cL)⟩
def ah.row (x:ah):List L:=aW.enc x.r
def ah.zero:ah:=⟨⟨#[]⟩,0,0,[]⟩
def ah.cS {a b:ah}(h:a.r=b.r):a=b:=by
 cases a;cases b
 simp only [ah.r,aW.mk.injEq] at h
 obtain ⟨h0,h1,h2,h3⟩:=h
 simp only [ah.mk.injEq]
 exact ⟨h0,h1,h2,(map_inj uA h3)⟩
def ah.cN {a b:ah}(h:ah.row a=ah.row b):a=b:=ah.cS (congrArg aW.dec h)
def ah.cZ {xs:List ah}{i:Nat}:aW.at (xs.map ah.row) i=(xs.getD i ah.zero).r:=eN (r:=fun x=>ah.r x) (fun _=>rfl) rfl
def ah.qD (x:ah):(ah.r x).aQ=x.aQ:=Eq.trans rfl rfl
def ah.tS (x:ah):(ah.r x).bL=x.bL:=Eq.trans rfl rfl
def ah.yU (x:ah):(ah.r x).bX=x.bX:=Eq.trans rfl rfl
def ah.tV (x:ah):(ah.r x).bB=(x.bB.map cL):=Eq.trans rfl rfl
instance :Row ah:=⟨ah.row,ah.cN⟩
instance :Im ah aW:=⟨ah.r,ah.cS⟩
def ah.rs:(∀(xs:List ah) (i:Nat),aW.at (xs.map ah.row) i=(xs.getD i ah.zero).r)/\(∀x:ah,(ah.r x).aQ=x.aQ)/\(∀x:ah,(ah.r x).bL=x.bL)/\(∀x:ah,(ah.r x).bX=x.bX)/\(∀x:ah,(ah.r x).bB=(x.bB.map cL)):=⟨fun _ _=>ah.cZ,ah.qD,ah.tS,ah.yU,ah.tV⟩
def ah.Sm (n:Nat)(x:ah):Prop:=(x.aQ).size<=n/\bI n (fun y:aA=>(y).size<=n) x.bB
def ah.size (x:ah):Nat:=(x.aQ).size+fc (fun y:aA=>(y).size) x.bB
def ah.cM {n m:Nat}(hn:n<=m){x:ah}(h:ah.Sm n x):ah.Sm m x:=⟨Nat.le_trans h.1 hn,h.2.mono hn (fun x hx=>Nat.le_trans hx hn)⟩
def ah.eY {n:Nat}{x:ah}(h:x.size<=n):ah.Sm n x:=by
 unfold ah.size at h
 have g0:(x.aQ).size<=n:=by omega
 have g1:fc (fun y:aA=>(y).size) x.bB<=n:=by omega
 exact ⟨g0,jR g1 (fun x hx=>hx)⟩
structure bH where
 ec:Int
 bB:aF
structure aB where
 ec:Int
 bB:List Int
def bH.enc (x:bH):List L:=[.int x.ec,.sl x.bB]
def bH.dec (r:List L):bH:=⟨((av 0 r).headD .hole).toInt,((av 1 r).headD .hole).aY⟩
instance :RT bH:=⟨bH.enc,bH.dec,2,fun _ _=>rfl,fun _ _=>rfl⟩
def bH.at (xs:aF)(i:Nat):bH:=bH.dec (List.getD xs i [])
def aB.r (x:aB):bH:=⟨x.ec,(x.bB.map bn)⟩
def aB.row (x:aB):List L:=bH.enc x.r
def aB.zero:aB:=⟨0,[]⟩
def aB.cS {a b:aB}(h:a.r=b.r):a=b:=by
 cases a;cases b
 simp only [aB.r,bH.mk.injEq] at h
 obtain ⟨h0,h1⟩:=h
 simp only [aB.mk.injEq]
 exact ⟨h0,(map_inj lN h1)⟩
def aB.cN {a b:aB}(h:aB.row a=aB.row b):a=b:=aB.cS (congrArg bH.dec h)
def aB.cZ {xs:List aB}{i:Nat}:bH.at (xs.map aB.row) i=(xs.getD i aB.zero).r:=eN (r:=fun x=>aB.r x) (fun _=>rfl) rfl
def aB.yI (x:aB):(aB.r x).ec=x.ec:=Eq.trans rfl rfl
def aB.tV (x:aB):(aB.r x).bB=(x.bB.map bn):=Eq.trans rfl rfl
instance :Row aB:=⟨aB.row,aB.cN⟩
instance :Im aB bH:=⟨aB.r,aB.cS⟩
def aB.rs:(∀(xs:List aB) (i:Nat),bH.at (xs.map aB.row) i=(xs.getD i aB.zero).r)/\(∀x:aB,(aB.r x).ec=x.ec)/\(∀x:aB,(aB.r x).bB=(x.bB.map bn)):=⟨fun _ _=>aB.cZ,aB.yI,aB.tV⟩
def aB.Sm (n:Nat)(x:aB):Prop:=bI n (fun y:Int=>True) x.bB
def aB.size (x:aB):Nat:=fc (fun y:Int=>0) x.bB
def aB.cM {n m:Nat}(hn:n<=m){x:aB}(h:aB.Sm n x):aB.Sm m x:=h.mono hn (fun x hx=>trivial)
def aB.eY {n:Nat}{x:aB}(h:x.size<=n):aB.Sm n x:=by
 unfold aB.size at h
 have g0:fc (fun y:Int=>0) x.bB<=n:=by omega
 exact jR g0 (fun x hx=>trivial)
structure dm where
 ec:Int
 aX:aW
 bQ:aW
 dx:bH
 cw:bH
structure bG where
 ec:Int
 aX:ah
 bQ:ah
 dx:aB
 cw:aB
def dm.enc (x:dm):List L:=[.int x.ec,.str x.aX.aQ,.int x.aX.bL,.int x.aX.bX,.sl x.aX.bB,.str x.bQ.aQ,.int x.bQ.bL,.int x.bQ.bX,.sl x.bQ.bB,.int x.dx.ec,.sl x.dx.bB,.int x.cw.ec,.sl x.cw.bB]
def dm.dec (r:List L):dm:=⟨((av 0 r).headD .hole).toInt,⟨((av 1 r).headD .hole).toStr,((av 2 r).headD .hole).toInt,((av 3 r).headD .hole).toInt,((av 4 r).headD .hole).aY⟩,⟨((av 5 r).headD .hole).toStr,((av 6 r).headD .hole).toInt,((av 7 r).headD .hole).toInt,((av 8 r).headD .hole).aY⟩,⟨((av 9 r).headD .hole).toInt,((av 10 r).headD .hole).aY⟩,⟨((av 11 r).headD .hole).toInt,((av 12 r).headD .hole).aY⟩⟩
instance :RT dm:=⟨dm.enc,dm.dec,13,fun _ _=>rfl,fun _ _=>rfl⟩
def dm.at (xs:aF)(i:Nat):dm:=dm.dec (List.getD xs i [])
def bG.r (x:bG):dm:=⟨x.ec,(ah.r x.aX),(ah.r x.bQ),(aB.r x.dx),(aB.r x.cw)⟩
def bG.row (x:bG):List L:=dm.enc x.r
def bG.zero:bG:=⟨0,ah.zero,ah.zero,aB.zero,aB.zero⟩
def bG.cS {a b:bG}(h:a.r=b.r):a=b:=by
 cases a;cases b
 simp only [bG.r,dm.mk.injEq] at h
 obtain ⟨h0,h1,h2,h3,h4⟩:=h
 simp only [bG.mk.injEq]
 exact ⟨h0,(ah.cS h1),(ah.cS h2),(aB.cS h3),(aB.cS h4)⟩
def bG.cN {a b:bG}(h:bG.row a=bG.row b):a=b:=bG.cS (congrArg dm.dec h)
def bG.cZ {xs:List bG}{i:Nat}:dm.at (xs.map bG.row) i=(xs.getD i bG.zero).r:=eN (r:=fun x=>bG.r x) (fun _=>rfl) rfl
def bG.yI (x:bG):(bG.r x).ec=x.ec:=Eq.trans rfl rfl
def bG.oC (x:bG):(bG.r x).aX=(ah.r x.aX):=Eq.trans rfl rfl
def bG.xZ (x:bG):(bG.r x).bQ=(ah.r x.bQ):=Eq.trans rfl rfl
def bG.zH (x:bG):(bG.r x).dx=(aB.r x.dx):=Eq.trans rfl rfl
def bG.xV (x:bG):(bG.r x).cw=(aB.r x.cw):=Eq.trans rfl rfl
instance :Row bG:=⟨bG.row,bG.cN⟩
instance :Im bG dm:=⟨bG.r,bG.cS⟩
def bG.rs:(∀(xs:List bG) (i:Nat),dm.at (xs.map bG.row) i=(xs.getD i bG.zero).r)/\(∀x:bG,(bG.r x).ec=x.ec)/\(∀x:bG,(bG.r x).aX=(ah.r x.aX))/\(∀x:bG,(bG.r x).bQ=(ah.r x.bQ))/\(∀x:bG,(bG.r x).dx=(aB.r x.dx))/\(∀x:bG,(bG.r x).cw=(aB.r x.cw)):=⟨fun _ _=>bG.cZ,bG.yI,bG.oC,bG.xZ,bG.zH,bG.xV⟩
def bG.Sm (n:Nat)(x:bG):Prop:=ah.Sm n x.aX/\ah.Sm n x.bQ/\aB.Sm n x.dx/\aB.Sm n x.cw
def bG.size (x:bG):Nat:=ah.size x.aX+ah.size x.bQ+aB.size x.dx+aB.size x.cw
def bG.cM {n m:Nat}(hn:n<=m){x:bG}(h:bG.Sm n x):bG.Sm m x:=⟨ah.cM hn h.1,ah.cM hn h.2.1,aB.cM hn h.2.2.1,aB.cM hn h.2.2.2⟩
def bG.eY {n:Nat}{x:bG}(h:x.size<=n):bG.Sm n x:=by
 unfold bG.size at h
 have g0:ah.size x.aX<=n:=by omega
 have g1:ah.size x.bQ<=n:=by omega
 have g2:aB.size x.dx<=n:=by omega
 have g3:aB.size x.cw<=n:=by omega
 exact ⟨ah.eY g0,ah.eY g1,aB.eY g2,aB.eY g3⟩
structure aO where
 aP:aF
 bS:Bool
 bg:aW
 cX:bH
 eo:dm
structure aj where
 aP:List aa
 bS:Bool
 bg:ah
 cX:aB
 eo:bG
def aO.enc (x:aO):List L:=[.sl x.aP,.bool x.bS,.str x.bg.aQ,.int x.bg.bL,.int x.bg.bX,.sl x.bg.bB,.int x.cX.ec,.sl x.cX.bB,.int x.eo.ec,.str x.eo.aX.aQ,.int x.eo.aX.bL,.int x.eo.aX.bX,.sl x.eo.aX.bB,.str x.eo.bQ.aQ,.int x.eo.bQ.bL,.int x.eo.bQ.bX,.sl x.eo.bQ.bB,.int x.eo.dx.ec,.sl x.eo.dx.bB,.int x.eo.cw.ec,.sl x.eo.cw.bB]
def aO.dec (r:List L):aO:=⟨((av 0 r).headD .hole).aY,((av 1 r).headD .hole).toBool,⟨((av 2 r).headD .hole).toStr,((av 3 r).headD .hole).toInt,((av 4 r).headD .hole).toInt,((av 5 r).headD .hole).aY⟩,⟨((av 6 r).headD .hole).toInt,((av 7 r).headD .hole).aY⟩,⟨((av 8 r).headD .hole).toInt,⟨((av 9 r).headD .hole).toStr,((av 10 r).headD .hole).toInt,((av 11 r).headD .hole).toInt,((av 12 r).headD .hole).aY⟩,⟨((av 13 r).headD .hole).toStr,((av 14 r).headD .hole).toInt,((av 15 r).headD .hole).toInt,((av 16 r).headD .hole).aY⟩,⟨((av 17 r).headD .hole).toInt,((av 18 r).headD .hole).aY⟩,⟨((av 19 r).headD .hole).toInt,((av 20 r).headD .hole).aY⟩⟩⟩
instance :RT aO:=⟨aO.enc,aO.dec,21,fun _ _=>rfl,fun _ _=>rfl⟩
def aO.at (xs:aF)(i:Nat):aO:=aO.dec (List.getD xs i [])
def aj.r (x:aj):aO:=⟨(x.aP.map aa.row),x.bS,(ah.r x.bg),(aB.r x.cX),(bG.r x.eo)⟩
def aj.row (x:aj):List L:=aO.enc x.r
def aj.zero:aj:=⟨[],false,ah.zero,aB.zero,bG.zero⟩
def aj.cS {a b:aj}(h:a.r=b.r):a=b:=by
 cases a;cases b
 simp only [aj.r,aO.mk.injEq] at h
 obtain ⟨h0,h1,h2,h3,h4⟩:=h
 simp only [aj.mk.injEq]
 exact ⟨(map_inj aa.cN h0),h1,(ah.cS h2),(aB.cS h3),(bG.cS h4)⟩
def aj.cN {a b:aj}(h:aj.row a=aj.row b):a=b:=aj.cS (congrArg aO.dec h)
def aj.cZ {xs:List aj}{i:Nat}:aO.at (xs.map aj.row) i=(xs.getD i aj.zero).r:=eN (r:=fun x=>aj.r x) (fun _=>rfl) rfl
def aj.qT (x:aj):(aj.r x).aP=(x.aP.map aa.row):=Eq.trans rfl rfl
def aj.qO (x:aj):(aj.r x).bS=x.bS:=Eq.trans rfl rfl
def aj.kV (x:aj):(aj.r x).bg=(ah.r x.bg):=Eq.trans rfl rfl
def aj.yM (x:aj):(aj.r x).cX=(aB.r x.cX):=Eq.trans rfl rfl
def aj.AM (x:aj):(aj.r x).eo=(bG.r x.eo):=Eq.trans rfl rfl
instance :Row aj:=⟨aj.row,aj.cN⟩
instance :Im aj aO:=⟨aj.r,aj.cS⟩
def aj.rs:(∀(xs:List aj) (i:Nat),aO.at (xs.map aj.row) i=(xs.getD i aj.zero).r)/\(∀x:aj,(aj.r x).aP=(x.aP.map aa.row))/\(∀x:aj,(aj.r x).bS=x.bS)/\(∀x:aj,(aj.r x).bg=(ah.r x.bg))/\(∀x:aj,(aj.r x).cX=(aB.r x.cX))/\(∀x:aj,(aj.r x).eo=(bG.r x.eo)):=⟨fun _ _=>aj.cZ,aj.qT,aj.qO,aj.kV,aj.yM,aj.AM⟩
def aj.Sm (n:Nat)(x:aj):Prop:=bI n (fun y:aa=>aa.Sm n y) x.aP/\ah.Sm n x.bg/\aB.Sm n x.cX/\bG.Sm n x.eo
def aj.size (x:aj):Nat:=fc (fun y:aa=>aa.size y) x.aP+ah.size x.bg+aB.size x.cX+bG.size x.eo
def aj.cM {n m:Nat}(hn:n<=m){x:aj}(h:aj.Sm n x):aj.Sm m x:=⟨h.1.mono hn (fun x hx=>aa.cM hn hx),ah.cM hn h.2.1,aB.cM hn h.2.2.1,bG.cM hn h.2.2.2⟩
def aj.eY {n:Nat}{x:aj}(h:x.size<=n):aj.Sm n x:=by
 unfold aj.size at h
 have g0:fc (fun y:aa=>aa.size y) x.aP<=n:=by omega
 have g1:ah.size x.bg<=n:=by omega
 have g2:aB.size x.cX<=n:=by omega
 have g3:bG.size x.eo<=n:=by omega
 exact ⟨jR g0 (fun x hx=>aa.eY hx),ah.eY g1,aB.eY g2,bG.eY g3⟩
structure bV where
 bw:Int
 aQ:aA
 cC:aO
structure aC where
 bw:Int
 aQ:aA
 cC:aj
def bV.enc (x:bV):List L:=[.int x.bw,.str x.aQ,.sl x.cC.aP,.bool x.cC.bS,.str x.cC.bg.aQ,.int x.cC.bg.bL,.int x.cC.bg.bX,.sl x.cC.bg.bB,.int x.cC.cX.ec,.sl x.cC.cX.bB,.int x.cC.eo.ec,.str x.cC.eo.aX.aQ,.int x.cC.eo.aX.bL,.int x.cC.eo.aX.bX,.sl x.cC.eo.aX.bB,.str x.cC.eo.bQ.aQ,.int x.cC.eo.bQ.bL,.int x.cC.eo.bQ.bX,.sl x.cC.eo.bQ.bB,.int x.cC.eo.dx.ec,.sl x.cC.eo.dx.bB,.int x.cC.eo.cw.ec,.sl x.cC.eo.cw.bB]
def bV.dec (r:List L):bV:=⟨((av 0 r).headD .hole).toInt,((av 1 r).headD .hole).toStr,⟨((av 2 r).headD .hole).aY,((av 3 r).headD .hole).toBool,⟨((av 4 r).headD .hole).toStr,((av 5 r).headD .hole).toInt,((av 6 r).headD .hole).toInt,((av 7 r).headD .hole).aY⟩,⟨((av 8 r).headD .hole).toInt,((av 9 r).headD .hole).aY⟩,⟨((av 10 r).headD .hole).toInt,⟨((av 11 r).headD .hole).toStr,((av 12 r).headD .hole).toInt,((av 13 r).headD .hole).toInt,((av 14 r).headD .hole).aY⟩,⟨((av 15 r).headD .hole).toStr,((av 16 r).headD .hole).toInt,((av 17 r).headD .hole).toInt,((av 18 r).headD .hole).aY⟩,⟨((av 19 r).headD .hole).toInt,((av 20 r).headD .hole).aY⟩,⟨((av 21 r).headD .hole).toInt,((av 22 r).headD .hole).aY⟩⟩⟩⟩
instance :RT bV:=⟨bV.enc,bV.dec,23,fun _ _=>rfl,fun _ _=>rfl⟩
def bV.at (xs:aF)(i:Nat):bV:=bV.dec (List.getD xs i [])
def aC.r (x:aC):bV:=⟨x.bw,x.aQ,(aj.r x.cC)⟩
def aC.row (x:aC):List L:=bV.enc x.r
def aC.zero:aC:=⟨0,⟨#[]⟩,aj.zero⟩
def aC.cS {a b:aC}(h:a.r=b.r):a=b:=by
 cases a;cases b
 simp only [aC.r,bV.mk.injEq] at h
 obtain ⟨h0,h1,h2⟩:=h
 simp only [aC.mk.injEq]
 exact ⟨h0,h1,(aj.cS h2)⟩
def aC.cN {a b:aC}(h:aC.row a=aC.row b):a=b:=aC.cS (congrArg bV.dec h)
def aC.ga {xs:List aC}{i:Nat}(h:i<xs.length):bV.at (xs.map aC.row) i=(xs[i]).r:=by unfold bV.at;rw [getD_map h];rfl
def aC.cZ {xs:List aC}{i:Nat}:bV.at (xs.map aC.row) i=(xs.getD i aC.zero).r:=eN (r:=fun x=>aC.r x) (fun _=>rfl) rfl
def aC.tM (x:aC):(aC.r x).bw=x.bw:=Eq.trans rfl rfl
def aC.qD (x:aC):(aC.r x).aQ=x.aQ:=Eq.trans rfl rfl
def aC.wT (x:aC):(aC.r x).cC=(aj.r x.cC):=Eq.trans rfl rfl
instance :Row aC:=⟨aC.row,aC.cN⟩
instance :Im aC bV:=⟨aC.r,aC.cS⟩
def aC.rs:(∀(xs:List aC) (i:Nat),bV.at (xs.map aC.row) i=(xs.getD i aC.zero).r)/\(∀x:aC,(aC.r x).bw=x.bw)/\(∀x:aC,(aC.r x).aQ=x.aQ)/\(∀x:aC,(aC.r x).cC=(aj.r x.cC)):=⟨fun _ _=>aC.cZ,aC.tM,aC.qD,aC.wT⟩
def aC.Sm (n:Nat)(x:aC):Prop:=(x.aQ).size<=n/\aj.Sm n x.cC
def aC.size (x:aC):Nat:=(x.aQ).size+aj.size x.cC
def aC.cM {n m:Nat}(hn:n<=m){x:aC}(h:aC.Sm n x):aC.Sm m x:=⟨Nat.le_trans h.1 hn,aj.cM hn h.2⟩
def aC.eY {n:Nat}{x:aC}(h:x.size<=n):aC.Sm n x:=by
 unfold aC.size at h
 have g0:(x.aQ).size<=n:=by omega
 have g1:aj.size x.cC<=n:=by omega
 exact ⟨g0,aj.eY g1⟩
structure bR where
 aU:aF
structure aG where
 aU:List aC
def bR.enc (x:bR):List L:=[.sl x.aU]
def bR.dec (r:List L):bR:=⟨((av 0 r).headD .hole).aY⟩
instance :RT bR:=⟨bR.enc,bR.dec,1,fun _ _=>rfl,fun _ _=>rfl⟩
def bR.at (xs:aF)(i:Nat):bR:=bR.dec (List.getD xs i [])
def aG.r (x:aG):bR:=⟨(x.aU.map aC.row)⟩
def aG.row (x:aG):List L:=bR.enc x.r
def aG.zero:aG:=⟨[]⟩
def aG.cS {a b:aG}(h:a.r=b.r):a=b:=by
 cases a;cases b
 simp only [aG.r,bR.mk.injEq] at h
 have h0:=h
 simp only [aG.mk.injEq]
 exact (map_inj aC.cN h0)
def aG.cN {a b:aG}(h:aG.row a=aG.row b):a=b:=aG.cS (congrArg bR.dec h)
def aG.cZ {xs:List aG}{i:Nat}:bR.at (xs.map aG.row) i=(xs.getD i aG.zero).r:=eN (r:=fun x=>aG.r x) (fun _=>rfl) rfl
def aG.tB (x:aG):(aG.r x).aU=(x.aU.map aC.row):=Eq.trans rfl rfl
instance :Row aG:=⟨aG.row,aG.cN⟩
instance :Im aG bR:=⟨aG.r,aG.cS⟩
def aG.rs:(∀(xs:List aG) (i:Nat),bR.at (xs.map aG.row) i=(xs.getD i aG.zero).r)/\(∀x:aG,(aG.r x).aU=(x.aU.map aC.row)):=⟨fun _ _=>aG.cZ,aG.tB⟩
def aG.Sm (n:Nat)(x:aG):Prop:=bI n (fun y:aC=>aC.Sm n y) x.aU
def aG.size (x:aG):Nat:=fc (fun y:aC=>aC.size y) x.aU
def aG.cM {n m:Nat}(hn:n<=m){x:aG}(h:aG.Sm n x):aG.Sm m x:=h.mono hn (fun x hx=>aC.cM hn hx)
def aG.eY {n:Nat}{x:aG}(h:x.size<=n):aG.Sm n x:=by
 unfold aG.size at h
 have g0:fc (fun y:aC=>aC.size y) x.aU<=n:=by omega
 exact jR g0 (fun x hx=>aC.eY hx)
structure dz where
 cA:bt
 kM:Int
 bg:aW
 bY:aF
 lI:Int
structure bT where
 cA:an
 kM:Int
 bg:ah
 bY:List Int
 lI:Int
def dz.enc (x:dz):List L:=[.sl x.cA.aK,.sl x.cA.bq,.int x.kM,.str x.bg.aQ,.int x.bg.bL,.int x.bg.bX,.sl x.bg.bB,.sl x.bY,.int x.lI]
def dz.dec (r:List L):dz:=⟨⟨((av 0 r).headD .hole).aY,((av 1 r).headD .hole).aY⟩,((av 2 r).headD .hole).toInt,⟨((av 3 r).headD .hole).toStr,((av 4 r).headD .hole).toInt,((av 5 r).headD .hole).toInt,((av 6 r).headD .hole).aY⟩,((av 7 r).headD .hole).aY,((av 8 r).headD .hole).toInt⟩
instance :RT dz:=⟨dz.enc,dz.dec,9,fun _ _=>rfl,fun _ _=>rfl⟩
def dz.at (xs:aF)(i:Nat):dz:=dz.dec (List.getD xs i [])
def bT.r (x:bT):dz:=⟨(an.r x.cA),x.kM,(ah.r x.bg),(x.bY.map bn),x.lI⟩
def bT.row (x:bT):List L:=dz.enc x.r
def bT.zero:bT:=⟨an.zero,0,ah.zero,[],0⟩
def bT.cS {a b:bT}(h:a.r=b.r):a=b:=by
 cases a;cases b
 simp only [bT.r,dz.mk.injEq] at h
 obtain ⟨h0,h1,h2,h3,h4⟩:=h
 simp only [bT.mk.injEq]
 exact ⟨(an.cS h0),h1,(ah.cS h2),(map_inj lN h3),h4⟩
def bT.cN {a b:bT}(h:bT.row a=bT.row b):a=b:=bT.cS (congrArg dz.dec h)
def bT.cZ {xs:List bT}{i:Nat}:dz.at (xs.map bT.row) i=(xs.getD i bT.zero).r:=eN (r:=fun x=>bT.r x) (fun _=>rfl) rfl
def bT.qX (x:bT):(bT.r x).cA=(an.r x.cA):=Eq.trans rfl rfl
def bT.Ah (x:bT):(bT.r x).kM=x.kM:=Eq.trans rfl rfl
def bT.kV (x:bT):(bT.r x).bg=(ah.r x.bg):=Eq.trans rfl rfl
def bT.qE (x:bT):(bT.r x).bY=(x.bY.map bn):=Eq.trans rfl rfl
def bT.yN (x:bT):(bT.r x).lI=x.lI:=Eq.trans rfl rfl
instance :Row bT:=⟨bT.row,bT.cN⟩
instance :Im bT dz:=⟨bT.r,bT.cS⟩
def bT.rs:(∀(xs:List bT) (i:Nat),dz.at (xs.map bT.row) i=(xs.getD i bT.zero).r)/\(∀x:bT,(bT.r x).cA=(an.r x.cA))/\(∀x:bT,(bT.r x).kM=x.kM)/\(∀x:bT,(bT.r x).bg=(ah.r x.bg))/\(∀x:bT,(bT.r x).bY=(x.bY.map bn))/\(∀x:bT,(bT.r x).lI=x.lI):=⟨fun _ _=>bT.cZ,bT.qX,bT.Ah,bT.kV,bT.qE,bT.yN⟩
structure eg where
 fX:dz
 mQ:bR
structure dB where
 fX:bT
 mQ:aG
def eg.enc (x:eg):List L:=[.sl x.fX.cA.aK,.sl x.fX.cA.bq,.int x.fX.kM,.str x.fX.bg.aQ,.int x.fX.bg.bL,.int x.fX.bg.bX,.sl x.fX.bg.bB,.sl x.fX.bY,.int x.fX.lI,.sl x.mQ.aU]
def eg.dec (r:List L):eg:=⟨⟨⟨((av 0 r).headD .hole).aY,((av 1 r).headD .hole).aY⟩,((av 2 r).headD .hole).toInt,⟨((av 3 r).headD .hole).toStr,((av 4 r).headD .hole).toInt,((av 5 r).headD .hole).toInt,((av 6 r).headD .hole).aY⟩,((av 7 r).headD .hole).aY,((av 8 r).headD .hole).toInt⟩,⟨((av 9 r).headD .hole).aY⟩⟩
instance :RT eg:=⟨eg.enc,eg.dec,10,fun _ _=>rfl,fun _ _=>rfl⟩
def eg.at (xs:aF)(i:Nat):eg:=eg.dec (List.getD xs i [])
def dB.r (x:dB):eg:=⟨(bT.r x.fX),(aG.r x.mQ)⟩
def dB.row (x:dB):List L:=eg.enc x.r
def dB.zero:dB:=⟨bT.zero,aG.zero⟩
def dB.cS {a b:dB}(h:a.r=b.r):a=b:=by
 cases a;cases b
 simp only [dB.r,eg.mk.injEq] at h
 obtain ⟨h0,h1⟩:=h
 simp only [dB.mk.injEq]
 exact ⟨(bT.cS h0),(aG.cS h1)⟩
def dB.cN {a b:dB}(h:dB.row a=dB.row b):a=b:=dB.cS (congrArg eg.dec h)
def dB.cZ {xs:List dB}{i:Nat}:eg.at (xs.map dB.row) i=(xs.getD i dB.zero).r:=eN (r:=fun x=>dB.r x) (fun _=>rfl) rfl
def dB.yw (x:dB):(dB.r x).fX=(bT.r x.fX):=Eq.trans rfl rfl
def dB.xR (x:dB):(dB.r x).mQ=(aG.r x.mQ):=Eq.trans rfl rfl
instance :Row dB:=⟨dB.row,dB.cN⟩
instance :Im dB eg:=⟨dB.r,dB.cS⟩
def dB.rs:(∀(xs:List dB) (i:Nat),eg.at (xs.map dB.row) i=(xs.getD i dB.zero).r)/\(∀x:dB,(dB.r x).fX=(bT.r x.fX))/\(∀x:dB,(dB.r x).mQ=(aG.r x.mQ)):=⟨fun _ _=>dB.cZ,dB.yw,dB.xR⟩
structure gm where
 fName:aA
 bw:Int
def gm.enc (x:gm):List L:=[.str x.fName,.int x.bw]
def gm.dec (r:List L):gm:=⟨((av 0 r).headD .hole).toStr,((av 1 r).headD .hole).toInt⟩
instance :RT gm:=⟨gm.enc,gm.dec,2,fun _ _=>rfl,fun _ _=>rfl⟩
def gm.at (xs:aF)(i:Nat):gm:=gm.dec (List.getD xs i [])
def gm.row (x:gm):List L:=gm.enc x
def gm.zero:gm:=⟨⟨#[]⟩,0⟩
def gm.cN {a b:gm}(h:gm.row a=gm.row b):a=b:=congrArg gm.dec h
def gm.cZ {xs:List gm}{i:Nat}:gm.at (xs.map gm.row) i=xs.getD i gm.zero:=eN (r:=fun x=>x) (fun _=>rfl) rfl
instance :Row gm:=⟨gm.row,gm.cN⟩
instance :Im gm gm:=⟨fun x=>x,fun h=>h⟩
def gm.rs:(∀(xs:List gm) (i:Nat),gm.at (xs.map gm.row) i=xs.getD i gm.zero):=fun _ _=>gm.cZ
structure eV where
 aP:aF
 cz:aF
structure bA where
 aP:List aa
 cz:List ah
def eV.enc (x:eV):List L:=[.sl x.aP,.sl x.cz]
def eV.dec (r:List L):eV:=⟨((av 0 r).headD .hole).aY,((av 1 r).headD .hole).aY⟩
instance :RT eV:=⟨eV.enc,eV.dec,2,fun _ _=>rfl,fun _ _=>rfl⟩
def eV.at (xs:aF)(i:Nat):eV:=eV.dec (List.getD xs i [])
def bA.r (x:bA):eV:=⟨(x.aP.map aa.row),(x.cz.map ah.row)⟩
def bA.row (x:bA):List L:=eV.enc x.r
def bA.zero:bA:=⟨[],[]⟩
def bA.cS {a b:bA}(h:a.r=b.r):a=b:=by
 cases a;cases b
 simp only [bA.r,eV.mk.injEq] at h
 obtain ⟨h0,h1⟩:=h
 simp only [bA.mk.injEq]
 exact ⟨(map_inj aa.cN h0),(map_inj ah.cN h1)⟩
def bA.cN {a b:bA}(h:bA.row a=bA.row b):a=b:=bA.cS (congrArg eV.dec h)
def bA.cZ {xs:List bA}{i:Nat}:eV.at (xs.map bA.row) i=(xs.getD i bA.zero).r:=eN (r:=fun x=>bA.r x) (fun _=>rfl) rfl
def bA.qT (x:bA):(bA.r x).aP=(x.aP.map aa.row):=Eq.trans rfl rfl
def bA.vS (x:bA):(bA.r x).cz=(x.cz.map ah.row):=Eq.trans rfl rfl
instance :Row bA:=⟨bA.row,bA.cN⟩
instance :Im bA eV:=⟨bA.r,bA.cS⟩
def bA.rs:(∀(xs:List bA) (i:Nat),eV.at (xs.map bA.row) i=(xs.getD i bA.zero).r)/\(∀x:bA,(bA.r x).aP=(x.aP.map aa.row))/\(∀x:bA,(bA.r x).cz=(x.cz.map ah.row)):=⟨fun _ _=>bA.cZ,bA.qT,bA.vS⟩
def bA.Sm (n:Nat)(x:bA):Prop:=bI n (fun y:aa=>aa.Sm n y) x.aP/\bI n (fun y:ah=>ah.Sm n y) x.cz
structure dR where
 bY:aF
 iQ:Int
structure aR where
 bY:List bA
 iQ:Int
def dR.enc (x:dR):List L:=[.sl x.bY,.int x.iQ]
def dR.dec (r:List L):dR:=⟨((av 0 r).headD .hole).aY,((av 1 r).headD .hole).toInt⟩
instance :RT dR:=⟨dR.enc,dR.dec,2,fun _ _=>rfl,fun _ _=>rfl⟩
def dR.at (xs:aF)(i:Nat):dR:=dR.dec (List.getD xs i [])
def aR.r (x:aR):dR:=⟨(x.bY.map bA.row),x.iQ⟩
def aR.row (x:aR):List L:=dR.enc x.r
def aR.zero:aR:=⟨[],0⟩
def aR.cS {a b:aR}(h:a.r=b.r):a=b:=by
 cases a;cases b
 simp only [aR.r,dR.mk.injEq] at h
 obtain ⟨h0,h1⟩:=h
 simp only [aR.mk.injEq]
 exact ⟨(map_inj bA.cN h0),h1⟩
def aR.cN {a b:aR}(h:aR.row a=aR.row b):a=b:=aR.cS (congrArg dR.dec h)
def aR.cZ {xs:List aR}{i:Nat}:dR.at (xs.map aR.row) i=(xs.getD i aR.zero).r:=eN (r:=fun x=>aR.r x) (fun _=>rfl) rfl
def aR.qE (x:aR):(aR.r x).bY=(x.bY.map bA.row):=Eq.trans rfl rfl
def aR.AE (x:aR):(aR.r x).iQ=x.iQ:=Eq.trans rfl rfl
instance :Row aR:=⟨aR.row,aR.cN⟩
instance :Im aR dR:=⟨aR.r,aR.cS⟩
def aR.rs:(∀(xs:List aR) (i:Nat),dR.at (xs.map aR.row) i=(xs.getD i aR.zero).r)/\(∀x:aR,(aR.r x).bY=(x.bY.map bA.row))/\(∀x:aR,(aR.r x).iQ=x.iQ):=⟨fun _ _=>aR.cZ,aR.qE,aR.AE⟩
def aR.Sm (n:Nat)(x:aR):Prop:=bI n (fun y:bA=>bA.Sm n y) x.bY
structure cW where
 cA:bt
 bS:Bool
 bg:aW
 gD:Bool
 fD:aF
structure bO where
 cA:an
 bS:Bool
 bg:ah
 gD:Bool
 fD:List Int
def cW.enc (x:cW):List L:=[.sl x.cA.aK,.sl x.cA.bq,.bool x.bS,.str x.bg.aQ,.int x.bg.bL,.int x.bg.bX,.sl x.bg.bB,.bool x.gD,.sl x.fD]
def cW.dec (r:List L):cW:=⟨⟨((av 0 r).headD .hole).aY,((av 1 r).headD .hole).aY⟩,((av 2 r).headD .hole).toBool,⟨((av 3 r).headD .hole).toStr,((av 4 r).headD .hole).toInt,((av 5 r).headD .hole).toInt,((av 6 r).headD .hole).aY⟩,((av 7 r).headD .hole).toBool,((av 8 r).headD .hole).aY⟩
instance :RT cW:=⟨cW.enc,cW.dec,9,fun _ _=>rfl,fun _ _=>rfl⟩
def cW.at (xs:aF)(i:Nat):cW:=cW.dec (List.getD xs i [])
def bO.r (x:bO):cW:=⟨(an.r x.cA),x.bS,(ah.r x.bg),x.gD,(x.fD.map bn)⟩
def bO.row (x:bO):List L:=cW.enc x.r
def bO.zero:bO:=⟨an.zero,false,ah.zero,false,[]⟩
def bO.cS {a b:bO}(h:a.r=b.r):a=b:=by
 cases a;cases b
 simp only [bO.r,cW.mk.injEq] at h
 obtain ⟨h0,h1,h2,h3,h4⟩:=h
 simp only [bO.mk.injEq]
 exact ⟨(an.cS h0),h1,(ah.cS h2),h3,(map_inj lN h4)⟩
def bO.cN {a b:bO}(h:bO.row a=bO.row b):a=b:=bO.cS (congrArg cW.dec h)
def bO.cZ {xs:List bO}{i:Nat}:cW.at (xs.map bO.row) i=(xs.getD i bO.zero).r:=eN (r:=fun x=>bO.r x) (fun _=>rfl) rfl
def bO.qX (x:bO):(bO.r x).cA=(an.r x.cA):=Eq.trans rfl rfl
def bO.qO (x:bO):(bO.r x).bS=x.bS:=Eq.trans rfl rfl
def bO.kV (x:bO):(bO.r x).bg=(ah.r x.bg):=Eq.trans rfl rfl
def bO.zY (x:bO):(bO.r x).gD=x.gD:=Eq.trans rfl rfl
def bO.xU (x:bO):(bO.r x).fD=(x.fD.map bn):=Eq.trans rfl rfl
instance :Row bO:=⟨bO.row,bO.cN⟩
instance :Im bO cW:=⟨bO.r,bO.cS⟩
def bO.rs:(∀(xs:List bO) (i:Nat),cW.at (xs.map bO.row) i=(xs.getD i bO.zero).r)/\(∀x:bO,(bO.r x).cA=(an.r x.cA))/\(∀x:bO,(bO.r x).bS=x.bS)/\(∀x:bO,(bO.r x).bg=(ah.r x.bg))/\(∀x:bO,(bO.r x).gD=x.gD)/\(∀x:bO,(bO.r x).fD=(x.fD.map bn)):=⟨fun _ _=>bO.cZ,bO.qX,bO.qO,bO.kV,bO.zY,bO.xU⟩
def bO.Sm (n:Nat)(x:bO):Prop:=an.Sm n x.cA/\ah.Sm n x.bg/\bI n (fun y:Int=>True) x.fD
def SS:=And.intro (And.intro S0 MM) (And.intro aL.rs (And.intro aE.rs (And.intro bz.rs (And.intro aa.rs (And.intro aI.rs (And.intro an.rs (And.intro ah.rs (And.intro aB.rs (And.intro bG.rs (And.intro aj.rs (And.intro aC.rs (And.intro aG.rs (And.intro bT.rs (And.intro dB.rs (And.intro gm.rs (And.intro bA.rs (And.intro aR.rs (And.intro bO.rs trivial))))))))))))))))))
def fz {p:Prop}(h:p:=by first | rfl | (simp only [SS];done) | (simp only [MP];rfl) | (simp only [SS,MP];first | done | rfl) | (simp only [aL.r,aE.r,aa.r,aI.r,an.r,ah.r,aB.r,bG.r,aj.r,aC.r,aG.r,bT.r,dB.r,bA.r,aR.r,bO.r,SS,MP];first | done | rfl) | (simp only [SS,MP,List.length_take,List.length_drop];first | done | rfl)):p:=h
def rq {p q:Prop}(h:p)(k:p->q:=by intro R_;first | exact R_ | (simp only [MP,SS] at R_ ⊢;first | exact R_ | (rw [<-R_];rfl))):q:=k h
end Go.DM

end
