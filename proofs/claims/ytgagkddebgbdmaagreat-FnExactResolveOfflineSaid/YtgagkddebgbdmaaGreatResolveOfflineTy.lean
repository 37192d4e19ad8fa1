/- The structures of the program, as mathematical records. Conditions: none. -/
import Derived.Test.YtgagkddebgbdmaaGreatResolveOfflineDd
set_option linter.all false
noncomputable section
namespace Go.DM
structure cN where
 aN:aD
 cH:Int
structure aO where
 aN:List Int
 cH:Int
def cN.enc (x:cN):List L:=[.sl x.aN,.int x.cH]
def cN.dec (r:List L):cN:=⟨((ay 0 r).headD .hole).aS,((ay 1 r).headD .hole).toInt⟩
instance :RT cN:=⟨cN.enc,cN.dec,2,fun _ _=>rfl,fun _ _=>rfl⟩
def cN.at (xs:aD)(i:Nat):cN:=cN.dec (List.getD xs i [])
def aO.r (x:aO):cN:=⟨(x.aN.map bk),x.cH⟩
def aO.row (x:aO):List L:=cN.enc x.r
def aO.zero:aO:=⟨[],0⟩
def aO.dA {a b:aO}(h:a.r=b.r):a=b:=by
 cases a;cases b
 simp only [aO.r,cN.mk.injEq] at h
 obtain ⟨h0,h1⟩:=h
 simp only [aO.mk.injEq]
 exact ⟨(map_inj mO h0),h1⟩
def aO.dh {a b:aO}(h:aO.row a=aO.row b):a=b:=aO.dA (congrArg cN.dec h)
def aO.dN {xs:List aO}{i:Nat}:cN.at (xs.map aO.row) i=(xs.getD i aO.zero).r:=eW (r:=fun x=>aO.r x) (fun _=>rfl) rfl
def aO.uR (x:aO):(aO.r x).aN=(x.aN.map bk):=Eq.trans rfl rfl
def aO.AJ (x:aO):(aO.r x).cH=x.cH:=Eq.trans rfl rfl
instance :Row aO:=⟨aO.row,aO.dh⟩
instance :Im aO cN:=⟨aO.r,aO.dA⟩
def aO.rs:(∀(xs:List aO) (i:Nat),cN.at (xs.map aO.row) i=(xs.getD i aO.zero).r)/\(∀x:aO,(aO.r x).aN=(x.aN.map bk))/\(∀x:aO,(aO.r x).cH=x.cH):=⟨fun _ _=>aO.dN,aO.uR,aO.AJ⟩
def aO.Sm (n:Nat)(x:aO):Prop:=bO n (fun y:Int=>True) x.aN
def aO.size (x:aO):Nat:=eC (fun y:Int=>0) x.aN
def aO.cQ {n m:Nat}(hn:n<=m){x:aO}(h:aO.Sm n x):aO.Sm m x:=h.mono hn (fun x hx=>trivial)
def aO.fE {n:Nat}{x:aO}(h:x.size<=n):aO.Sm n x:=by
 unfold aO.size at h
 have g0:eC (fun y:Int=>0) x.aN<=n:=by omega
 exact kL g0 (fun x hx=>trivial)
structure dm where
 bw:Int
 cM:Int
 bI:Int
 cL:Int
 cF:Int
 cA:Int
 dy:Int
 dR:Int
 bR:cN
 bE:cN
 dB:Int
 bB:cN
 bC:Bool
structure aE where
 bw:Int
 cM:Int
 bI:Int
 cL:Int
 cF:Int
 cA:Int
 dy:Int
 dR:Int
 bR:aO
 bE:aO
 dB:Int
 bB:aO
 bC:Bool
def dm.enc (x:dm):List L:=[.int x.bw,.int x.cM,.int x.bI,.int x.cL,.int x.cF,.int x.cA,.int x.dy,.int x.dR,.sl x.bR.aN,.int x.bR.cH,.sl x.bE.aN,.int x.bE.cH,.int x.dB,.sl x.bB.aN,.int x.bB.cH,.bool x.bC]
def dm.dec (r:List L):dm:=⟨((ay 0 r).headD .hole).toInt,((ay 1 r).headD .hole).toInt,((ay 2 r).headD .hole).toInt,((ay 3 r).headD .hole).toInt,((ay 4 r).headD .hole).toInt,((ay 5 r).headD .hole).toInt,((ay 6 r).headD .hole).toInt,((ay 7 r).headD .hole).toInt,⟨((ay 8 r).headD .hole).aS,((ay 9 r).headD .hole).toInt⟩,⟨((ay 10 r).headD .hole).aS,((ay 11 r).headD .hole).toInt⟩,((ay 12 r).headD .hole).toInt,⟨((ay 13 r).headD .hole).aS,((ay 14 r).headD .hole).toInt⟩,((ay 15 r).headD .hole).toBool⟩
instance :RT dm:=⟨dm.enc,dm.dec,16,fun _ _=>rfl,fun _ _=>rfl⟩
def dm.at (xs:aD)(i:Nat):dm:=dm.dec (List.getD xs i [])
def aE.r (x:aE):dm:=⟨x.bw,x.cM,x.bI,x.cL,x.cF,x.cA,x.dy,x.dR,(aO.r x.bR),(aO.r x.bE),x.dB,(aO.r x.bB),x.bC⟩
def aE.row (x:aE):List L:=dm.enc x.r
def aE.zero:aE:=⟨0,0,0,0,0,0,0,0,aO.zero,aO.zero,0,aO.zero,false⟩
def aE.dA {a b:aE}(h:a.r=b.r):a=b:=by
 cases a;cases b
 simp only [aE.r,dm.mk.injEq] at h
 obtain ⟨h0,h1,h2,h3,h4,h5,h6,h7,h8,h9,h10,h11,h12⟩:=h
 simp only [aE.mk.injEq]
 exact ⟨h0,h1,h2,h3,h4,h5,h6,h7,(aO.dA h8),(aO.dA h9),h10,(aO.dA h11),h12⟩
def aE.dh {a b:aE}(h:aE.row a=aE.row b):a=b:=aE.dA (congrArg dm.dec h)
def aE.dN {xs:List aE}{i:Nat}:dm.at (xs.map aE.row) i=(xs.getD i aE.zero).r:=eW (r:=fun x=>aE.r x) (fun _=>rfl) rfl
def aE.uJ (x:aE):(aE.r x).bw=x.bw:=Eq.trans rfl rfl
def aE.zp (x:aE):(aE.r x).cM=x.cM:=Eq.trans rfl rfl
def aE.uz (x:aE):(aE.r x).bI=x.bI:=Eq.trans rfl rfl
def aE.Bk (x:aE):(aE.r x).cL=x.cL:=Eq.trans rfl rfl
def aE.Ae (x:aE):(aE.r x).cF=x.cF:=Eq.trans rfl rfl
def aE.zg (x:aE):(aE.r x).cA=x.cA:=Eq.trans rfl rfl
def aE.A8 (x:aE):(aE.r x).dy=x.dy:=Eq.trans rfl rfl
def aE.AU (x:aE):(aE.r x).dR=x.dR:=Eq.trans rfl rfl
def aE.AR (x:aE):(aE.r x).bR=(aO.r x.bR):=Eq.trans rfl rfl
def aE.zT (x:aE):(aE.r x).bE=(aO.r x.bE):=Eq.trans rfl rfl
def aE.AN (x:aE):(aE.r x).dB=x.dB:=Eq.trans rfl rfl
def aE.zB (x:aE):(aE.r x).bB=(aO.r x.bB):=Eq.trans rfl rfl
def aE.yt (x:aE):(aE.r x).bC=x.bC:=Eq.trans rfl rfl
instance :Row aE:=⟨aE.row,aE.dh⟩
instance :Im aE dm:=⟨aE.r,aE.dA⟩
def aE.rs:(∀(xs:List aE) (i:Nat),dm.at (xs.map aE.row) i=(xs.getD i aE.zero).r)/\(∀x:aE,(aE.r x).bw=x.bw)/\(∀x:aE,(aE.r x).cM=x.cM)/\(∀x:aE,(aE.r x).bI=x.bI)/\(∀x:aE,(aE.r x).cL=x.cL)/\(∀x:aE,(aE.r x).cF=x.cF)/\(∀x:aE,(aE.r x).cA=x.cA)/\(∀x:aE,(aE.r x).dy=x.dy)/\(∀x:aE,(aE.r x).dR=x.dR)/\(∀x:aE,(aE.r x).bR=(aO.r x.bR))/\(∀x:aE,(aE.r x).bE=(aO.r x.bE))/\(∀x:aE,(aE.r x).dB=x.dB)/\(∀x:aE,(aE.r x).bB=(aO.r x.bB))/\(∀x:aE,(aE.r x).bC=x.bC):=⟨fun _ _=>aE.dN,aE.uJ,aE.zp,aE.uz,aE.Bk,aE.Ae,aE.zg,aE.A8,aE.AU,aE.AR,aE.zT,aE.AN,aE.zB,aE.yt⟩
def aE.Sm (n:Nat)(x:aE):Prop:=aO.Sm n x.bR/\aO.Sm n x.bE/\aO.Sm n x.bB
def aE.size (x:aE):Nat:=aO.size x.bR+aO.size x.bE+aO.size x.bB
def aE.cQ {n m:Nat}(hn:n<=m){x:aE}(h:aE.Sm n x):aE.Sm m x:=⟨aO.cQ hn h.1,aO.cQ hn h.2.1,aO.cQ hn h.2.2⟩
def aE.fE {n:Nat}{x:aE}(h:x.size<=n):aE.Sm n x:=by
 unfold aE.size at h
 have g0:aO.size x.bR<=n:=by omega
 have g1:aO.size x.bE<=n:=by omega
 have g2:aO.size x.bB<=n:=by omega
 exact ⟨aO.fE g0,aO.fE g1,aO.fE g2⟩
structure bn where
 iu:Int
 jM:Int
def bn.enc (x:bn):List L:=[.int x.iu,.int x.jM]
def bn.dec (r:List L):bn:=⟨((ay 0 r).headD .hole).toInt,((ay 1 r).headD .hole).toInt⟩
instance :RT bn:=⟨bn.enc,bn.dec,2,fun _ _=>rfl,fun _ _=>rfl⟩
def bn.at (xs:aD)(i:Nat):bn:=bn.dec (List.getD xs i [])
def bn.row (x:bn):List L:=bn.enc x
def bn.zero:bn:=⟨0,0⟩
def bn.dh {a b:bn}(h:bn.row a=bn.row b):a=b:=congrArg bn.dec h
def bn.gJ {xs:List bn}{i:Nat}(h:i<xs.length):bn.at (xs.map bn.row) i=xs[i]:=by unfold bn.at;rw [getD_map h];rfl
def bn.dN {xs:List bn}{i:Nat}:bn.at (xs.map bn.row) i=xs.getD i bn.zero:=eW (r:=fun x=>x) (fun _=>rfl) rfl
def bn.eqc (a b:bn):(eD a.iu b.iu&&(eD a.jM b.jM&&true))=eD a b:=by
 cases a;cases b
 rw [Bool.eq_iff_iff]
 simp only [dz,Bool.and_eq_true,bn.mk.injEq,and_true]
instance :Row bn:=⟨bn.row,bn.dh⟩
instance :Im bn bn:=⟨fun x=>x,fun h=>h⟩
def bn.rs:(∀(xs:List bn) (i:Nat),bn.at (xs.map bn.row) i=xs.getD i bn.zero):=fun _ _=>bn.dN
def bn.Sm (n:Nat)(x:bn):Prop:=True
def bn.size (x:bn):Nat:=0
def bn.cQ {n m:Nat}(_:n<=m){x:bn}(_:bn.Sm n x):bn.Sm m x:=trivial
def bn.fE {n:Nat}{x:bn}(_:x.size<=n):bn.Sm n x:=trivial
structure aY where
 an:dm
 cI:aD
structure aa where
 an:aE
 cI:List bn
def aY.enc (x:aY):List L:=[.int x.an.bw,.int x.an.cM,.int x.an.bI,.int x.an.cL,.int x.an.cF,.int x.an.cA,.int x.an.dy,.int x.an.dR,.sl x.an.bR.aN,.int x.an.bR.cH,.sl x.an.bE.aN,.int x.an.bE.cH,.int x.an.dB,.sl x.an.bB.aN,.int x.an.bB.cH,.bool x.an.bC,.sl x.cI]
def aY.dec (r:List L):aY:=⟨⟨((ay 0 r).headD .hole).toInt,((ay 1 r).headD .hole).toInt,((ay 2 r).headD .hole).toInt,((ay 3 r).headD .hole).toInt,((ay 4 r).headD .hole).toInt,((ay 5 r).headD .hole).toInt,((ay 6 r).headD .hole).toInt,((ay 7 r).headD .hole).toInt,⟨((ay 8 r).headD .hole).aS,((ay 9 r).headD .hole).toInt⟩,⟨((ay 10 r).headD .hole).aS,((ay 11 r).headD .hole).toInt⟩,((ay 12 r).headD .hole).toInt,⟨((ay 13 r).headD .hole).aS,((ay 14 r).headD .hole).toInt⟩,((ay 15 r).headD .hole).toBool⟩,((ay 16 r).headD .hole).aS⟩
instance :RT aY:=⟨aY.enc,aY.dec,17,fun _ _=>rfl,fun _ _=>rfl⟩
def aY.at (xs:aD)(i:Nat):aY:=aY.dec (List.getD xs i [])
def aa.r (x:aa):aY:=⟨(aE.r x.an),(x.cI.map bn.row)⟩
def aa.row (x:aa):List L:=aY.enc x.r
def aa.zero:aa:=⟨aE.zero,[]⟩
def aa.dA {a b:aa}(h:a.r=b.r):a=b:=by
 cases a;cases b
 simp only [aa.r,aY.mk.injEq] at h
 obtain ⟨h0,h1⟩:=h
 simp only [aa.mk.injEq]
 exact ⟨(aE.dA h0),(map_inj bn.dh h1)⟩
def aa.dh {a b:aa}(h:aa.row a=aa.row b):a=b:=aa.dA (congrArg aY.dec h)
def aa.gJ {xs:List aa}{i:Nat}(h:i<xs.length):aY.at (xs.map aa.row) i=(xs[i]).r:=by unfold aY.at;rw [getD_map h];rfl
def aa.dN {xs:List aa}{i:Nat}:aY.at (xs.map aa.row) i=(xs.getD i aa.zero).r:=eW (r:=fun x=>aa.r x) (fun _=>rfl) rfl
def aa.AF (x:aa):(aa.r x).an=(aE.r x.an):=Eq.trans rfl rfl
def aa.AE (x:aa):(aa.r x).cI=(x.cI.map bn.row):=Eq.trans rfl rfl
instance :Row aa:=⟨aa.row,aa.dh⟩
instance :Im aa aY:=⟨aa.r,aa.dA⟩
def aa.rs:(∀(xs:List aa) (i:Nat),aY.at (xs.map aa.row) i=(xs.getD i aa.zero).r)/\(∀x:aa,(aa.r x).an=(aE.r x.an))/\(∀x:aa,(aa.r x).cI=(x.cI.map bn.row)):=⟨fun _ _=>aa.dN,aa.AF,aa.AE⟩
def aa.Sm (n:Nat)(x:aa):Prop:=aE.Sm n x.an/\bO n (fun y:bn=>bn.Sm n y) x.cI
def aa.size (x:aa):Nat:=aE.size x.an+eC (fun y:bn=>bn.size y) x.cI
def aa.cQ {n m:Nat}(hn:n<=m){x:aa}(h:aa.Sm n x):aa.Sm m x:=⟨aE.cQ hn h.1,h.2.mono hn (fun x hx=>bn.cQ hn hx)⟩
def aa.fE {n:Nat}{x:aa}(h:x.size<=n):aa.Sm n x:=by
 unfold aa.size at h
 have g0:aE.size x.an<=n:=by omega
 have g1:eC (fun y:bn=>bn.size y) x.cI<=n:=by omega
 exact ⟨aE.fE g0,kL g1 (fun x hx=>bn.fE hx)⟩
structure bM where
 aM:aY
 fA:aY
 fB:aY
structure aF where
 aM:aa
 fA:aa
 fB:aa
def bM.enc (x:bM):List L:=[.int x.aM.an.bw,.int x.aM.an.cM,.int x.aM.an.bI,.int x.aM.an.cL,.int x.aM.an.cF,.int x.aM.an.cA,.int x.aM.an.dy,.int x.aM.an.dR,.sl x.aM.an.bR.aN,.int x.aM.an.bR.cH,.sl x.aM.an.bE.aN,.int x.aM.an.bE.cH,.int x.aM.an.dB,.sl x.aM.an.bB.aN,.int x.aM.an.bB.cH,.bool x.aM.an.bC,.sl x.aM.cI,.int x.fA.an.bw,.int x.fA.an.cM,.int x.fA.an.bI,.int x.fA.an.cL,.int x.fA.an.cF,.int x.fA.an.cA,.int x.fA.an.dy,.int x.fA.an.dR,.sl x.fA.an.bR.aN,.int x.fA.an.bR.cH,.sl x.fA.an.bE.aN,.int x.fA.an.bE.cH,.int x.fA.an.dB,.sl x.fA.an.bB.aN,.int x.fA.an.bB.cH,.bool x.fA.an.bC,.sl x.fA.cI,.int x.fB.an.bw,.int x.fB.an.cM,.int x.fB.an.bI,.int x.fB.an.cL,.int x.fB.an.cF,.int x.fB.an.cA,.int x.fB.an.dy,.int x.fB.an.dR,.sl x.fB.an.bR.aN,.int x.fB.an.bR.cH,.sl x.fB.an.bE.aN,.int x.fB.an.bE.cH,.int x.fB.an.dB,.sl x.fB.an.bB.aN,.int x.fB.an.bB.cH,.bool x.fB.an.bC,.sl x.fB.cI]
def bM.dec (r:List L):bM:=⟨⟨⟨((ay 0 r).headD .hole).toInt,((ay 1 r).headD .hole).toInt,((ay 2 r).headD .hole).toInt,((ay 3 r).headD .hole).toInt,((ay 4 r).headD .hole).toInt,((ay 5 r).headD .hole).toInt,((ay 6 r).headD .hole).toInt,((ay 7 r).headD .hole).toInt,⟨((ay 8 r).headD .hole).aS,((ay 9 r).headD .hole).toInt⟩,⟨((ay 10 r).headD .hole).aS,((ay 11 r).headD .hole).toInt⟩,((ay 12 r).headD .hole).toInt,⟨((ay 13 r).headD .hole).aS,((ay 14 r).headD .hole).toInt⟩,((ay 15 r).headD .hole).toBool⟩,((ay 16 r).headD .hole).aS⟩,⟨⟨((ay 17 r).headD .hole).toInt,((ay 18 r).headD .hole).toInt,((ay 19 r).headD .hole).toInt,((ay 20 r).headD .hole).toInt,((ay 21 r).headD .hole).toInt,((ay 22 r).headD .hole).toInt,((ay 23 r).headD .hole).toInt,((ay 24 r).headD .hole).toInt,⟨((ay 25 r).headD .hole).aS,((ay 26 r).headD .hole).toInt⟩,⟨((ay 27 r).headD .hole).aS,((ay 28 r).headD .hole).toInt⟩,((ay 29 r).headD .hole).toInt,⟨((ay 30 r).headD .hole).aS,((ay 31 r).headD .hole).toInt⟩,((ay 32 r).headD .hole).toBool⟩,((ay 33 r).headD .hole).aS⟩,⟨⟨((ay 34 r).headD .hole).toInt,((ay 35 r).headD .hole).toInt,((ay 36 r).headD .hole).toInt,((ay 37 r).headD .hole).toInt,((ay 38 r).headD .hole).toInt,((ay 39 r).headD .hole).toInt,((ay 40 r).headD .hole).toInt,((ay 41 r).headD .hole).toInt,⟨((ay 42 r).headD .hole).aS,((ay 43 r).headD .hole).toInt⟩,⟨((ay 44 r).headD .hole).aS,((ay 45 r).headD .hole).toInt⟩,((ay 46 r).headD .hole).toInt,⟨((ay 47 r).headD .hole).aS,((ay 48 r).headD .hole).toInt⟩,((ay 49 r).headD .hole).toBool⟩,((ay 50 r).headD .hole).aS⟩⟩
instance :RT bM:=⟨bM.enc,bM.dec,51,fun _ _=>rfl,fun _ _=>rfl⟩
def bM.at (xs:aD)(i:Nat):bM:=bM.dec (List.getD xs i [])
def aF.r (x:aF):bM:=⟨(aa.r x.aM),(aa.r x.fA),(aa.r x.fB)⟩
def aF.row (x:aF):List L:=bM.enc x.r
def aF.zero:aF:=⟨aa.zero,aa.zero,aa.zero⟩
def aF.dA {a b:aF}(h:a.r=b.r):a=b:=by
 cases a;cases b
 simp only [aF.r,bM.mk.injEq] at h
 obtain ⟨h0,h1,h2⟩:=h
 simp only [aF.mk.injEq]
 exact ⟨(aa.dA h0),(aa.dA h1),(aa.dA h2)⟩
def aF.dh {a b:aF}(h:aF.row a=aF.row b):a=b:=aF.dA (congrArg bM.dec h)
def aF.gJ {xs:List aF}{i:Nat}(h:i<xs.length):bM.at (xs.map aF.row) i=(xs[i]).r:=by unfold bM.at;rw [getD_map h];rfl
def aF.dN {xs:List aF}{i:Nat}:bM.at (xs.map aF.row) i=(xs.getD i aF.zero).r:=eW (r:=fun x=>aF.r x) (fun _=>rfl) rfl
def aF.pZ (x:aF):(aF.r x).aM=(aa.r x.aM):=Eq.trans rfl rfl
def aF.Ds (x:aF):(aF.r x).fA=(aa.r x.fA):=Eq.trans rfl rfl
def aF.C0 (x:aF):(aF.r x).fB=(aa.r x.fB):=Eq.trans rfl rfl
instance :Row aF:=⟨aF.row,aF.dh⟩
instance :Im aF bM:=⟨aF.r,aF.dA⟩
def aF.rs:(∀(xs:List aF) (i:Nat),bM.at (xs.map aF.row) i=(xs.getD i aF.zero).r)/\(∀x:aF,(aF.r x).aM=(aa.r x.aM))/\(∀x:aF,(aF.r x).fA=(aa.r x.fA))/\(∀x:aF,(aF.r x).fB=(aa.r x.fB)):=⟨fun _ _=>aF.dN,aF.pZ,aF.Ds,aF.C0⟩
def aF.Sm (n:Nat)(x:aF):Prop:=aa.Sm n x.aM/\aa.Sm n x.fA/\aa.Sm n x.fB
def aF.size (x:aF):Nat:=aa.size x.aM+aa.size x.fA+aa.size x.fB
def aF.cQ {n m:Nat}(hn:n<=m){x:aF}(h:aF.Sm n x):aF.Sm m x:=⟨aa.cQ hn h.1,aa.cQ hn h.2.1,aa.cQ hn h.2.2⟩
def aF.fE {n:Nat}{x:aF}(h:x.size<=n):aF.Sm n x:=by
 unfold aF.size at h
 have g0:aa.size x.aM<=n:=by omega
 have g1:aa.size x.fA<=n:=by omega
 have g2:aa.size x.fB<=n:=by omega
 exact ⟨aa.fE g0,aa.fE g1,aa.fE g2⟩
structure bu where
 aL:aD
 bp:aD
structure av where
 aL:List (List aa)
 bp:List aF
def bu.enc (x:bu):List L:=[.sl x.aL,.sl x.bp]
def bu.dec (r:List L):bu:=⟨((ay 0 r).headD .hole).aS,((ay 1 r).headD .hole).aS⟩
instance :RT bu:=⟨bu.enc,bu.dec,2,fun _ _=>rfl,fun _ _=>rfl⟩
def bu.at (xs:aD)(i:Nat):bu:=bu.dec (List.getD xs i [])
def av.r (x:av):bu:=⟨(x.aL.map (eg aa.row)),(x.bp.map aF.row)⟩
def av.row (x:av):List L:=bu.enc x.r
def av.zero:av:=⟨[],[]⟩
def av.dA {a b:av}(h:a.r=b.r):a=b:=by
 cases a;cases b
 simp only [av.r,bu.mk.injEq] at h
 obtain ⟨h0,h1⟩:=h
 simp only [av.mk.injEq]
 exact ⟨(map_inj (vk aa.dh) h0),(map_inj aF.dh h1)⟩
def av.dh {a b:av}(h:av.row a=av.row b):a=b:=av.dA (congrArg bu.dec h)
def av.dN {xs:List av}{i:Nat}:bu.at (xs.map av.row) i=(xs.getD i av.zero).r:=eW (r:=fun x=>av.r x) (fun _=>rfl) rfl
def av.yJ (x:av):(av.r x).aL=(x.aL.map (eg aa.row)):=Eq.trans rfl rfl
def av.Aj (x:av):(av.r x).bp=(x.bp.map aF.row):=Eq.trans rfl rfl
instance :Row av:=⟨av.row,av.dh⟩
instance :Im av bu:=⟨av.r,av.dA⟩
def av.rs:(∀(xs:List av) (i:Nat),bu.at (xs.map av.row) i=(xs.getD i av.zero).r)/\(∀x:av,(av.r x).aL=(x.aL.map (eg aa.row)))/\(∀x:av,(av.r x).bp=(x.bp.map aF.row)):=⟨fun _ _=>av.dN,av.yJ,av.Aj⟩
def av.Sm (n:Nat)(x:av):Prop:=bO n (fun y:List aa=>bO n (fun y:aa=>aa.Sm n y) y) x.aL/\bO n (fun y:aF=>aF.Sm n y) x.bp
def av.size (x:av):Nat:=eC (fun y:List aa=>eC (fun y:aa=>aa.size y) y) x.aL+eC (fun y:aF=>aF.size y) x.bp
def av.cQ {n m:Nat}(hn:n<=m){x:av}(h:av.Sm n x):av.Sm m x:=⟨h.1.mono hn (fun x hx=>hx.mono hn (fun x hx=>aa.cQ hn hx)),h.2.mono hn (fun x hx=>aF.cQ hn hx)⟩
def av.fE {n:Nat}{x:av}(h:x.size<=n):av.Sm n x:=by
 unfold av.size at h
 have g0:eC (fun y:List aa=>eC (fun y:aa=>aa.size y) y) x.aL<=n:=by omega
 have g1:eC (fun y:aF=>aF.size y) x.bp<=n:=by omega
 exact ⟨kL g0 (fun x hx=>kL hx (fun x hx=>aa.fE hx)),kL g1 (fun x hx=>aF.fE hx)⟩
structure bH where
 aV:aC
 bI:Int
 bX:Int
 bz:aD
structure ah where
 aV:aC
 bI:Int
 bX:Int
 bz:List aC
def bH.enc (x:bH):List L:=[.str x.aV,.int x.bI,.int x.bX,.sl x.bz]
def bH.dec (r:List L):bH:=⟨((ay 0 r).headD .hole).toStr,((ay 1 r).headD .hole).toInt,((ay 2 r).headD .hole).toInt,((ay 3 r).headD .hole).aS⟩
instance :RT bH:=⟨bH.enc,bH.dec,4,fun _ _=>rfl,fun _ _=>rfl⟩
def bH.at (xs:aD)(i:Nat):bH:=bH.dec (List.getD xs i [])
def ah.r (x:ah):bH:=⟨x.aV,x.bI,x.bX,(x.bz.map cK)⟩
def ah.row (x:ah):List L:=bH.enc x.r
def ah.zero:ah:=⟨⟨#[]⟩,0,0,[]⟩
def ah.dA {a b:ah}(h:a.r=b.r):a=b:=by
 cases a;cases b
 simp only [ah.r,bH.mk.injEq] at h
 obtain ⟨h0,h1,h2,h3⟩:=h
 simp only [ah.mk.injEq]
 exact ⟨h0,h1,h2,(map_inj wB h3)⟩
def ah.dh {a b:ah}(h:ah.row a=ah.row b):a=b:=ah.dA (congrArg bH.dec h)
def ah.dN {xs:List ah}{i:Nat}:bH.at (xs.map ah.row) i=(xs.getD i ah.zero).r:=eW (r:=fun x=>ah.r x) (fun _=>rfl) rfl
def ah.rR (x:ah):(ah.r x).aV=x.aV:=Eq.trans rfl rfl
def ah.uz (x:ah):(ah.r x).bI=x.bI:=Eq.trans rfl rfl
def ah.Aq (x:ah):(ah.r x).bX=x.bX:=Eq.trans rfl rfl
def ah.uw (x:ah):(ah.r x).bz=(x.bz.map cK):=Eq.trans rfl rfl
instance :Row ah:=⟨ah.row,ah.dh⟩
instance :Im ah bH:=⟨ah.r,ah.dA⟩
def ah.rs:(∀(xs:List ah) (i:Nat),bH.at (xs.map ah.row) i=(xs.getD i ah.zero).r)/\(∀x:ah,(ah.r x).aV=x.aV)/\(∀x:ah,(ah.r x).bI=x.bI)/\(∀x:ah,(ah.r x).bX=x.bX)/\(∀x:ah,(ah.r x).bz=(x.bz.map cK)):=⟨fun _ _=>ah.dN,ah.rR,ah.uz,ah.Aq,ah.uw⟩
def ah.Sm (n:Nat)(x:ah):Prop:=(x.aV).size<=n/\bO n (fun y:aC=>(y).size<=n) x.bz
def ah.size (x:ah):Nat:=(x.aV).size+eC (fun y:aC=>(y).size) x.bz
def ah.cQ {n m:Nat}(hn:n<=m){x:ah}(h:ah.Sm n x):ah.Sm m x:=⟨Nat.le_trans h.1 hn,h.2.mono hn (fun x hx=>Nat.le_trans hx hn)⟩
def ah.fE {n:Nat}{x:ah}(h:x.size<=n):ah.Sm n x:=by
 unfold ah.size at h
 have g0:(x.aV).size<=n:=by omega
 have g1:eC (fun y:aC=>(y).size) x.bz<=n:=by omega
 exact ⟨g0,kL g1 (fun x hx=>hx)⟩
structure cS where
 eE:Int
 bz:aD
structure aH where
 eE:Int
 bz:List Int
def cS.enc (x:cS):List L:=[.int x.eE,.sl x.bz]
def cS.dec (r:List L):cS:=⟨((ay 0 r).headD .hole).toInt,((ay 1 r).headD .hole).aS⟩
instance :RT cS:=⟨cS.enc,cS.dec,2,fun _ _=>rfl,fun _ _=>rfl⟩
def cS.at (xs:aD)(i:Nat):cS:=cS.dec (List.getD xs i [])
def aH.r (x:aH):cS:=⟨x.eE,(x.bz.map bk)⟩
def aH.row (x:aH):List L:=cS.enc x.r
def aH.zero:aH:=⟨0,[]⟩
def aH.dA {a b:aH}(h:a.r=b.r):a=b:=by
 cases a;cases b
 simp only [aH.r,cS.mk.injEq] at h
 obtain ⟨h0,h1⟩:=h
 simp only [aH.mk.injEq]
 exact ⟨h0,(map_inj mO h1)⟩
def aH.dh {a b:aH}(h:aH.row a=aH.row b):a=b:=aH.dA (congrArg cS.dec h)
def aH.dN {xs:List aH}{i:Nat}:cS.at (xs.map aH.row) i=(xs.getD i aH.zero).r:=eW (r:=fun x=>aH.r x) (fun _=>rfl) rfl
def aH.zh (x:aH):(aH.r x).eE=x.eE:=Eq.trans rfl rfl
def aH.uw (x:aH):(aH.r x).bz=(x.bz.map bk):=Eq.trans rfl rfl
instance :Row aH:=⟨aH.row,aH.dh⟩
instance :Im aH cS:=⟨aH.r,aH.dA⟩
def aH.rs:(∀(xs:List aH) (i:Nat),cS.at (xs.map aH.row) i=(xs.getD i aH.zero).r)/\(∀x:aH,(aH.r x).eE=x.eE)/\(∀x:aH,(aH.r x).bz=(x.bz.map bk)):=⟨fun _ _=>aH.dN,aH.zh,aH.uw⟩
def aH.Sm (n:Nat)(x:aH):Prop:=bO n (fun y:Int=>True) x.bz
def aH.size (x:aH):Nat:=eC (fun y:Int=>0) x.bz
def aH.cQ {n m:Nat}(hn:n<=m){x:aH}(h:aH.Sm n x):aH.Sm m x:=h.mono hn (fun x hx=>trivial)
def aH.fE {n:Nat}{x:aH}(h:x.size<=n):aH.Sm n x:=by
 unfold aH.size at h
 have g0:eC (fun y:Int=>0) x.bz<=n:=by omega
 exact kL g0 (fun x hx=>trivial)
structure eN where
 eE:Int
 aM:bH
 bU:bH
 dI:cS
 cz:cS
structure bK where
 eE:Int
 aM:ah
 bU:ah
 dI:aH
 cz:aH
def eN.enc (x:eN):List L:=[.int x.eE,.str x.aM.aV,.int x.aM.bI,.int x.aM.bX,.sl x.aM.bz,.str x.bU.aV,.int x.bU.bI,.int x.bU.bX,.sl x.bU.bz,.int x.dI.eE,.sl x.dI.bz,.int x.cz.eE,.sl x.cz.bz]
def eN.dec (r:List L):eN:=⟨((ay 0 r).headD .hole).toInt,⟨((ay 1 r).headD .hole).toStr,((ay 2 r).headD .hole).toInt,((ay 3 r).headD .hole).toInt,((ay 4 r).headD .hole).aS⟩,⟨((ay 5 r).headD .hole).toStr,((ay 6 r).headD .hole).toInt,((ay 7 r).headD .hole).toInt,((ay 8 r).headD .hole).aS⟩,⟨((ay 9 r).headD .hole).toInt,((ay 10 r).headD .hole).aS⟩,⟨((ay 11 r).headD .hole).toInt,((ay 12 r).headD .hole).aS⟩⟩
instance :RT eN:=⟨eN.enc,eN.dec,13,fun _ _=>rfl,fun _ _=>rfl⟩
def eN.at (xs:aD)(i:Nat):eN:=eN.dec (List.getD xs i [])
def bK.r (x:bK):eN:=⟨x.eE,(ah.r x.aM),(ah.r x.bU),(aH.r x.dI),(aH.r x.cz)⟩
def bK.row (x:bK):List L:=eN.enc x.r
def bK.zero:bK:=⟨0,ah.zero,ah.zero,aH.zero,aH.zero⟩
def bK.dA {a b:bK}(h:a.r=b.r):a=b:=by
 cases a;cases b
 simp only [bK.r,eN.mk.injEq] at h
 obtain ⟨h0,h1,h2,h3,h4⟩:=h
 simp only [bK.mk.injEq]
 exact ⟨h0,(ah.dA h1),(ah.dA h2),(aH.dA h3),(aH.dA h4)⟩
def bK.dh {a b:bK}(h:bK.row a=bK.row b):a=b:=bK.dA (congrArg eN.dec h)
def bK.dN {xs:List bK}{i:Nat}:eN.at (xs.map bK.row) i=(xs.getD i bK.zero).r:=eW (r:=fun x=>bK.r x) (fun _=>rfl) rfl
def bK.zh (x:bK):(bK.r x).eE=x.eE:=Eq.trans rfl rfl
def bK.pZ (x:bK):(bK.r x).aM=(ah.r x.aM):=Eq.trans rfl rfl
def bK.zw (x:bK):(bK.r x).bU=(ah.r x.bU):=Eq.trans rfl rfl
def bK.AS (x:bK):(bK.r x).dI=(aH.r x.dI):=Eq.trans rfl rfl
def bK.zV (x:bK):(bK.r x).cz=(aH.r x.cz):=Eq.trans rfl rfl
instance :Row bK:=⟨bK.row,bK.dh⟩
instance :Im bK eN:=⟨bK.r,bK.dA⟩
def bK.rs:(∀(xs:List bK) (i:Nat),eN.at (xs.map bK.row) i=(xs.getD i bK.zero).r)/\(∀x:bK,(bK.r x).eE=x.eE)/\(∀x:bK,(bK.r x).aM=(ah.r x.aM))/\(∀x:bK,(bK.r x).bU=(ah.r x.bU))/\(∀x:bK,(bK.r x).dI=(aH.r x.dI))/\(∀x:bK,(bK.r x).cz=(aH.r x.cz)):=⟨fun _ _=>bK.dN,bK.zh,bK.pZ,bK.zw,bK.AS,bK.zV⟩
def bK.Sm (n:Nat)(x:bK):Prop:=ah.Sm n x.aM/\ah.Sm n x.bU/\aH.Sm n x.dI/\aH.Sm n x.cz
def bK.size (x:bK):Nat:=ah.size x.aM+ah.size x.bU+aH.size x.dI+aH.size x.cz
def bK.cQ {n m:Nat}(hn:n<=m){x:bK}(h:bK.Sm n x):bK.Sm m x:=⟨ah.cQ hn h.1,ah.cQ hn h.2.1,aH.cQ hn h.2.2.1,aH.cQ hn h.2.2.2⟩
def bK.fE {n:Nat}{x:bK}(h:x.size<=n):bK.Sm n x:=by
 unfold bK.size at h
 have g0:ah.size x.aM<=n:=by omega
 have g1:ah.size x.bU<=n:=by omega
 have g2:aH.size x.dI<=n:=by omega
 have g3:aH.size x.cz<=n:=by omega
 exact ⟨ah.fE g0,ah.fE g1,aH.fE g2,aH.fE g3⟩
structure bf where
 aT:aD
 bY:Bool
 aQ:bH
 cZ:cS
 dS:eN
structure aq where
 aT:List aa
 bY:Bool
 aQ:ah
 cZ:aH
 dS:bK
def bf.enc (x:bf):List L:=[.sl x.aT,.bool x.bY,.str x.aQ.aV,.int x.aQ.bI,.int x.aQ.bX,.sl x.aQ.bz,.int x.cZ.eE,.sl x.cZ.bz,.int x.dS.eE,.str x.dS.aM.aV,.int x.dS.aM.bI,.int x.dS.aM.bX,.sl x.dS.aM.bz,.str x.dS.bU.aV,.int x.dS.bU.bI,.int x.dS.bU.bX,.sl x.dS.bU.bz,.int x.dS.dI.eE,.sl x.dS.dI.bz,.int x.dS.cz.eE,.sl x.dS.cz.bz]
def bf.dec (r:List L):bf:=⟨((ay 0 r).headD .hole).aS,((ay 1 r).headD .hole).toBool,⟨((ay 2 r).headD .hole).toStr,((ay 3 r).headD .hole).toInt,((ay 4 r).headD .hole).toInt,((ay 5 r).headD .hole).aS⟩,⟨((ay 6 r).headD .hole).toInt,((ay 7 r).headD .hole).aS⟩,⟨((ay 8 r).headD .hole).toInt,⟨((ay 9 r).headD .hole).toStr,((ay 10 r).headD .hole).toInt,((ay 11 r).headD .hole).toInt,((ay 12 r).headD .hole).aS⟩,⟨((ay 13 r).headD .hole).toStr,((ay 14 r).headD .hole).toInt,((ay 15 r).headD .hole).toInt,((ay 16 r).headD .hole).aS⟩,⟨((ay 17 r).headD .hole).toInt,((ay 18 r).headD .hole).aS⟩,⟨((ay 19 r).headD .hole).toInt,((ay 20 r).headD .hole).aS⟩⟩⟩
instance :RT bf:=⟨bf.enc,bf.dec,21,fun _ _=>rfl,fun _ _=>rfl⟩
def bf.at (xs:aD)(i:Nat):bf:=bf.dec (List.getD xs i [])
def aq.r (x:aq):bf:=⟨(x.aT.map aa.row),x.bY,(ah.r x.aQ),(aH.r x.cZ),(bK.r x.dS)⟩
def aq.row (x:aq):List L:=bf.enc x.r
def aq.zero:aq:=⟨[],false,ah.zero,aH.zero,bK.zero⟩
def aq.dA {a b:aq}(h:a.r=b.r):a=b:=by
 cases a;cases b
 simp only [aq.r,bf.mk.injEq] at h
 obtain ⟨h0,h1,h2,h3,h4⟩:=h
 simp only [aq.mk.injEq]
 exact ⟨(map_inj aa.dh h0),h1,(ah.dA h2),(aH.dA h3),(bK.dA h4)⟩
def aq.dh {a b:aq}(h:aq.row a=aq.row b):a=b:=aq.dA (congrArg bf.dec h)
def aq.dN {xs:List aq}{i:Nat}:bf.at (xs.map aq.row) i=(xs.getD i aq.zero).r:=eW (r:=fun x=>aq.r x) (fun _=>rfl) rfl
def aq.sI (x:aq):(aq.r x).aT=(x.aT.map aa.row):=Eq.trans rfl rfl
def aq.rB (x:aq):(aq.r x).bY=x.bY:=Eq.trans rfl rfl
def aq.lZ (x:aq):(aq.r x).aQ=(ah.r x.aQ):=Eq.trans rfl rfl
def aq.Ah (x:aq):(aq.r x).cZ=(aH.r x.cZ):=Eq.trans rfl rfl
def aq.Cg (x:aq):(aq.r x).dS=(bK.r x.dS):=Eq.trans rfl rfl
instance :Row aq:=⟨aq.row,aq.dh⟩
instance :Im aq bf:=⟨aq.r,aq.dA⟩
def aq.rs:(∀(xs:List aq) (i:Nat),bf.at (xs.map aq.row) i=(xs.getD i aq.zero).r)/\(∀x:aq,(aq.r x).aT=(x.aT.map aa.row))/\(∀x:aq,(aq.r x).bY=x.bY)/\(∀x:aq,(aq.r x).aQ=(ah.r x.aQ))/\(∀x:aq,(aq.r x).cZ=(aH.r x.cZ))/\(∀x:aq,(aq.r x).dS=(bK.r x.dS)):=⟨fun _ _=>aq.dN,aq.sI,aq.rB,aq.lZ,aq.Ah,aq.Cg⟩
def aq.Sm (n:Nat)(x:aq):Prop:=bO n (fun y:aa=>aa.Sm n y) x.aT/\ah.Sm n x.aQ/\aH.Sm n x.cZ/\bK.Sm n x.dS
def aq.size (x:aq):Nat:=eC (fun y:aa=>aa.size y) x.aT+ah.size x.aQ+aH.size x.cZ+bK.size x.dS
def aq.cQ {n m:Nat}(hn:n<=m){x:aq}(h:aq.Sm n x):aq.Sm m x:=⟨h.1.mono hn (fun x hx=>aa.cQ hn hx),ah.cQ hn h.2.1,aH.cQ hn h.2.2.1,bK.cQ hn h.2.2.2⟩
def aq.fE {n:Nat}{x:aq}(h:x.size<=n):aq.Sm n x:=by
 unfold aq.size at h
 have g0:eC (fun y:aa=>aa.size y) x.aT<=n:=by omega
 have g1:ah.size x.aQ<=n:=by omega
 have g2:aH.size x.cZ<=n:=by omega
 have g3:bK.size x.dS<=n:=by omega
 exact ⟨kL g0 (fun x hx=>aa.fE hx),ah.fE g1,aH.fE g2,bK.fE g3⟩
structure bZ where
 bw:Int
 aV:aC
 bS:bf
structure aA where
 bw:Int
 aV:aC
 bS:aq
def bZ.enc (x:bZ):List L:=[.int x.bw,.str x.aV,.sl x.bS.aT,.bool x.bS.bY,.str x.bS.aQ.aV,.int x.bS.aQ.bI,.int x.bS.aQ.bX,.sl x.bS.aQ.bz,.int x.bS.cZ.eE,.sl x.bS.cZ.bz,.int x.bS.dS.eE,.str x.bS.dS.aM.aV,.int x.bS.dS.aM.bI,.int x.bS.dS.aM.bX,.sl x.bS.dS.aM.bz,.str x.bS.dS.bU.aV,.int x.bS.dS.bU.bI,.int x.bS.dS.bU.bX,.sl x.bS.dS.bU.bz,.int x.bS.dS.dI.eE,.sl x.bS.dS.dI.bz,.int x.bS.dS.cz.eE,.sl x.bS.dS.cz.bz]
def bZ.dec (r:List L):bZ:=⟨((ay 0 r).headD .hole).toInt,((ay 1 r).headD .hole).toStr,⟨((ay 2 r).headD .hole).aS,((ay 3 r).headD .hole).toBool,⟨((ay 4 r).headD .hole).toStr,((ay 5 r).headD .hole).toInt,((ay 6 r).headD .hole).toInt,((ay 7 r).headD .hole).aS⟩,⟨((ay 8 r).headD .hole).toInt,((ay 9 r).headD .hole).aS⟩,⟨((ay 10 r).headD .hole).toInt,⟨((ay 11 r).headD .hole).toStr,((ay 12 r).headD .hole).toInt,((ay 13 r).headD .hole).toInt,((ay 14 r).headD .hole).aS⟩,⟨((ay 15 r).headD .hole).toStr,((ay 16 r).headD .hole).toInt,((ay 17 r).headD .hole).toInt,((ay 18 r).headD .hole).aS⟩,⟨((ay 19 r).headD .hole).toInt,((ay 20 r).headD .hole).aS⟩,⟨((ay 21 r).headD .hole).toInt,((ay 22 r).headD .hole).aS⟩⟩⟩⟩
instance :RT bZ:=⟨bZ.enc,bZ.dec,23,fun _ _=>rfl,fun _ _=>rfl⟩
def bZ.at (xs:aD)(i:Nat):bZ:=bZ.dec (List.getD xs i [])
def aA.r (x:aA):bZ:=⟨x.bw,x.aV,(aq.r x.bS)⟩
def aA.row (x:aA):List L:=bZ.enc x.r
def aA.zero:aA:=⟨0,⟨#[]⟩,aq.zero⟩
def aA.dA {a b:aA}(h:a.r=b.r):a=b:=by
 cases a;cases b
 simp only [aA.r,bZ.mk.injEq] at h
 obtain ⟨h0,h1,h2⟩:=h
 simp only [aA.mk.injEq]
 exact ⟨h0,h1,(aq.dA h2)⟩
def aA.dh {a b:aA}(h:aA.row a=aA.row b):a=b:=aA.dA (congrArg bZ.dec h)
def aA.gJ {xs:List aA}{i:Nat}(h:i<xs.length):bZ.at (xs.map aA.row) i=(xs[i]).r:=by unfold bZ.at;rw [getD_map h];rfl
def aA.dN {xs:List aA}{i:Nat}:bZ.at (xs.map aA.row) i=(xs.getD i aA.zero).r:=eW (r:=fun x=>aA.r x) (fun _=>rfl) rfl
def aA.uJ (x:aA):(aA.r x).bw=x.bw:=Eq.trans rfl rfl
def aA.rR (x:aA):(aA.r x).aV=x.aV:=Eq.trans rfl rfl
def aA.yQ (x:aA):(aA.r x).bS=(aq.r x.bS):=Eq.trans rfl rfl
instance :Row aA:=⟨aA.row,aA.dh⟩
instance :Im aA bZ:=⟨aA.r,aA.dA⟩
def aA.rs:(∀(xs:List aA) (i:Nat),bZ.at (xs.map aA.row) i=(xs.getD i aA.zero).r)/\(∀x:aA,(aA.r x).bw=x.bw)/\(∀x:aA,(aA.r x).aV=x.aV)/\(∀x:aA,(aA.r x).bS=(aq.r x.bS)):=⟨fun _ _=>aA.dN,aA.uJ,aA.rR,aA.yQ⟩
def aA.Sm (n:Nat)(x:aA):Prop:=(x.aV).size<=n/\aq.Sm n x.bS
def aA.size (x:aA):Nat:=(x.aV).size+aq.size x.bS
def aA.cQ {n m:Nat}(hn:n<=m){x:aA}(h:aA.Sm n x):aA.Sm m x:=⟨Nat.le_trans h.1 hn,aq.cQ hn h.2⟩
def aA.fE {n:Nat}{x:aA}(h:x.size<=n):aA.Sm n x:=by
 unfold aA.size at h
 have g0:(x.aV).size<=n:=by omega
 have g1:aq.size x.bS<=n:=by omega
 exact ⟨g0,aq.fE g1⟩
structure cu where
 aN:aD
structure aG where
 aN:List aA
def cu.enc (x:cu):List L:=[.sl x.aN]
def cu.dec (r:List L):cu:=⟨((ay 0 r).headD .hole).aS⟩
instance :RT cu:=⟨cu.enc,cu.dec,1,fun _ _=>rfl,fun _ _=>rfl⟩
def cu.at (xs:aD)(i:Nat):cu:=cu.dec (List.getD xs i [])
def aG.r (x:aG):cu:=⟨(x.aN.map aA.row)⟩
def aG.row (x:aG):List L:=cu.enc x.r
def aG.zero:aG:=⟨[]⟩
def aG.dA {a b:aG}(h:a.r=b.r):a=b:=by
 cases a;cases b
 simp only [aG.r,cu.mk.injEq] at h
 have h0:=h
 simp only [aG.mk.injEq]
 exact (map_inj aA.dh h0)
def aG.dh {a b:aG}(h:aG.row a=aG.row b):a=b:=aG.dA (congrArg cu.dec h)
def aG.dN {xs:List aG}{i:Nat}:cu.at (xs.map aG.row) i=(xs.getD i aG.zero).r:=eW (r:=fun x=>aG.r x) (fun _=>rfl) rfl
def aG.uR (x:aG):(aG.r x).aN=(x.aN.map aA.row):=Eq.trans rfl rfl
instance :Row aG:=⟨aG.row,aG.dh⟩
instance :Im aG cu:=⟨aG.r,aG.dA⟩
def aG.rs:(∀(xs:List aG) (i:Nat),cu.at (xs.map aG.row) i=(xs.getD i aG.zero).r)/\(∀x:aG,(aG.r x).aN=(x.aN.map aA.row)):=⟨fun _ _=>aG.dN,aG.uR⟩
def aG.Sm (n:Nat)(x:aG):Prop:=bO n (fun y:aA=>aA.Sm n y) x.aN
def aG.size (x:aG):Nat:=eC (fun y:aA=>aA.size y) x.aN
def aG.cQ {n m:Nat}(hn:n<=m){x:aG}(h:aG.Sm n x):aG.Sm m x:=h.mono hn (fun x hx=>aA.cQ hn hx)
def aG.fE {n:Nat}{x:aG}(h:x.size<=n):aG.Sm n x:=by
 unfold aG.size at h
 have g0:eC (fun y:aA=>aA.size y) x.aN<=n:=by omega
 exact kL g0 (fun x hx=>aA.fE hx)
structure dD where
 bV:bu
 gD:Int
 aQ:bH
 bQ:aD
 fu:Int
structure bF where
 bV:av
 gD:Int
 aQ:ah
 bQ:List Int
 fu:Int
def dD.enc (x:dD):List L:=[.sl x.bV.aL,.sl x.bV.bp,.int x.gD,.str x.aQ.aV,.int x.aQ.bI,.int x.aQ.bX,.sl x.aQ.bz,.sl x.bQ,.int x.fu]
def dD.dec (r:List L):dD:=⟨⟨((ay 0 r).headD .hole).aS,((ay 1 r).headD .hole).aS⟩,((ay 2 r).headD .hole).toInt,⟨((ay 3 r).headD .hole).toStr,((ay 4 r).headD .hole).toInt,((ay 5 r).headD .hole).toInt,((ay 6 r).headD .hole).aS⟩,((ay 7 r).headD .hole).aS,((ay 8 r).headD .hole).toInt⟩
instance :RT dD:=⟨dD.enc,dD.dec,9,fun _ _=>rfl,fun _ _=>rfl⟩
def dD.at (xs:aD)(i:Nat):dD:=dD.dec (List.getD xs i [])
def bF.r (x:bF):dD:=⟨(av.r x.bV),x.gD,(ah.r x.aQ),(x.bQ.map bk),x.fu⟩
def bF.row (x:bF):List L:=dD.enc x.r
def bF.zero:bF:=⟨av.zero,0,ah.zero,[],0⟩
def bF.dA {a b:bF}(h:a.r=b.r):a=b:=by
 cases a;cases b
 simp only [bF.r,dD.mk.injEq] at h
 obtain ⟨h0,h1,h2,h3,h4⟩:=h
 simp only [bF.mk.injEq]
 exact ⟨(av.dA h0),h1,(ah.dA h2),(map_inj mO h3),h4⟩
def bF.dh {a b:bF}(h:bF.row a=bF.row b):a=b:=bF.dA (congrArg dD.dec h)
def bF.dN {xs:List bF}{i:Nat}:dD.at (xs.map bF.row) i=(xs.getD i bF.zero).r:=eW (r:=fun x=>bF.r x) (fun _=>rfl) rfl
def bF.sG (x:bF):(bF.r x).bV=(av.r x.bV):=Eq.trans rfl rfl
def bF.AK (x:bF):(bF.r x).gD=x.gD:=Eq.trans rfl rfl
def bF.lZ (x:bF):(bF.r x).aQ=(ah.r x.aQ):=Eq.trans rfl rfl
def bF.sB (x:bF):(bF.r x).bQ=(x.bQ.map bk):=Eq.trans rfl rfl
def bF.zD (x:bF):(bF.r x).fu=x.fu:=Eq.trans rfl rfl
instance :Row bF:=⟨bF.row,bF.dh⟩
instance :Im bF dD:=⟨bF.r,bF.dA⟩
def bF.rs:(∀(xs:List bF) (i:Nat),dD.at (xs.map bF.row) i=(xs.getD i bF.zero).r)/\(∀x:bF,(bF.r x).bV=(av.r x.bV))/\(∀x:bF,(bF.r x).gD=x.gD)/\(∀x:bF,(bF.r x).aQ=(ah.r x.aQ))/\(∀x:bF,(bF.r x).bQ=(x.bQ.map bk))/\(∀x:bF,(bF.r x).fu=x.fu):=⟨fun _ _=>bF.dN,bF.sG,bF.AK,bF.lZ,bF.sB,bF.zD⟩
def bF.size (x:bF):Nat:=av.size x.bV+ah.size x.aQ+eC (fun y:Int=>0) x.bQ
structure eG where
 gq:dD
 mK:cu
structure dK where
 gq:bF
 mK:aG
def eG.enc (x:eG):List L:=[.sl x.gq.bV.aL,.sl x.gq.bV.bp,.int x.gq.gD,.str x.gq.aQ.aV,.int x.gq.aQ.bI,.int x.gq.aQ.bX,.sl x.gq.aQ.bz,.sl x.gq.bQ,.int x.gq.fu,.sl x.mK.aN]
def eG.dec (r:List L):eG:=⟨⟨⟨((ay 0 r).headD .hole).aS,((ay 1 r).headD .hole).aS⟩,((ay 2 r).headD .hole).toInt,⟨((ay 3 r).headD .hole).toStr,((ay 4 r).headD .hole).toInt,((ay 5 r).headD .hole).toInt,((ay 6 r).headD .hole).aS⟩,((ay 7 r).headD .hole).aS,((ay 8 r).headD .hole).toInt⟩,⟨((ay 9 r).headD .hole).aS⟩⟩
instance :RT eG:=⟨eG.enc,eG.dec,10,fun _ _=>rfl,fun _ _=>rfl⟩
def eG.at (xs:aD)(i:Nat):eG:=eG.dec (List.getD xs i [])
def dK.r (x:dK):eG:=⟨(bF.r x.gq),(aG.r x.mK)⟩
def dK.row (x:dK):List L:=eG.enc x.r
def dK.zero:dK:=⟨bF.zero,aG.zero⟩
def dK.dA {a b:dK}(h:a.r=b.r):a=b:=by
 cases a;cases b
 simp only [dK.r,eG.mk.injEq] at h
 obtain ⟨h0,h1⟩:=h
 simp only [dK.mk.injEq]
 exact ⟨(bF.dA h0),(aG.dA h1)⟩
def dK.dh {a b:dK}(h:dK.row a=dK.row b):a=b:=dK.dA (congrArg eG.dec h)
def dK.dN {xs:List dK}{i:Nat}:eG.at (xs.map dK.row) i=(xs.getD i dK.zero).r:=eW (r:=fun x=>dK.r x) (fun _=>rfl) rfl
def dK.Al (x:dK):(dK.r x).gq=(bF.r x.gq):=Eq.trans rfl rfl
def dK.zu (x:dK):(dK.r x).mK=(aG.r x.mK):=Eq.trans rfl rfl
instance :Row dK:=⟨dK.row,dK.dh⟩
instance :Im dK eG:=⟨dK.r,dK.dA⟩
def dK.rs:(∀(xs:List dK) (i:Nat),eG.at (xs.map dK.row) i=(xs.getD i dK.zero).r)/\(∀x:dK,(dK.r x).gq=(bF.r x.gq))/\(∀x:dK,(dK.r x).mK=(aG.r x.mK)):=⟨fun _ _=>dK.dN,dK.Al,dK.zu⟩
def dK.size (x:dK):Nat:=bF.size x.gq+aG.size x.mK
structure gM where
 fName:aC
 bw:Int
def gM.enc (x:gM):List L:=[.str x.fName,.int x.bw]
def gM.dec (r:List L):gM:=⟨((ay 0 r).headD .hole).toStr,((ay 1 r).headD .hole).toInt⟩
instance :RT gM:=⟨gM.enc,gM.dec,2,fun _ _=>rfl,fun _ _=>rfl⟩
def gM.at (xs:aD)(i:Nat):gM:=gM.dec (List.getD xs i [])
def gM.row (x:gM):List L:=gM.enc x
def gM.zero:gM:=⟨⟨#[]⟩,0⟩
def gM.dh {a b:gM}(h:gM.row a=gM.row b):a=b:=congrArg gM.dec h
def gM.dN {xs:List gM}{i:Nat}:gM.at (xs.map gM.row) i=xs.getD i gM.zero:=eW (r:=fun x=>x) (fun _=>rfl) rfl
instance :Row gM:=⟨gM.row,gM.dh⟩
instance :Im gM gM:=⟨fun x=>x,fun h=>h⟩
def gM.rs:(∀(xs:List gM) (i:Nat),gM.at (xs.map gM.row) i=xs.getD i gM.zero):=fun _ _=>gM.dN
structure fq where
 aT:aD
 ck:aD
structure bD where
 aT:List aa
 ck:List ah
def fq.enc (x:fq):List L:=[.sl x.aT,.sl x.ck]
def fq.dec (r:List L):fq:=⟨((ay 0 r).headD .hole).aS,((ay 1 r).headD .hole).aS⟩
instance :RT fq:=⟨fq.enc,fq.dec,2,fun _ _=>rfl,fun _ _=>rfl⟩
def fq.at (xs:aD)(i:Nat):fq:=fq.dec (List.getD xs i [])
def bD.r (x:bD):fq:=⟨(x.aT.map aa.row),(x.ck.map ah.row)⟩
def bD.row (x:bD):List L:=fq.enc x.r
def bD.zero:bD:=⟨[],[]⟩
def bD.dA {a b:bD}(h:a.r=b.r):a=b:=by
 cases a;cases b
 simp only [bD.r,fq.mk.injEq] at h
 obtain ⟨h0,h1⟩:=h
 simp only [bD.mk.injEq]
 exact ⟨(map_inj aa.dh h0),(map_inj ah.dh h1)⟩
def bD.dh {a b:bD}(h:bD.row a=bD.row b):a=b:=bD.dA (congrArg fq.dec h)
def bD.dN {xs:List bD}{i:Nat}:fq.at (xs.map bD.row) i=(xs.getD i bD.zero).r:=eW (r:=fun x=>bD.r x) (fun _=>rfl) rfl
def bD.sI (x:bD):(bD.r x).aT=(x.aT.map aa.row):=Eq.trans rfl rfl
def bD.xB (x:bD):(bD.r x).ck=(x.ck.map ah.row):=Eq.trans rfl rfl
instance :Row bD:=⟨bD.row,bD.dh⟩
instance :Im bD fq:=⟨bD.r,bD.dA⟩
def bD.rs:(∀(xs:List bD) (i:Nat),fq.at (xs.map bD.row) i=(xs.getD i bD.zero).r)/\(∀x:bD,(bD.r x).aT=(x.aT.map aa.row))/\(∀x:bD,(bD.r x).ck=(x.ck.map ah.row)):=⟨fun _ _=>bD.dN,bD.sI,bD.xB⟩
def bD.Sm (n:Nat)(x:bD):Prop:=bO n (fun y:aa=>aa.Sm n y) x.aT/\bO n (fun y:ah=>ah.Sm n y) x.ck
def bD.size (x:bD):Nat:=eC (fun y:aa=>aa.size y) x.aT+eC (fun y:ah=>ah.size y) x.ck
structure ec where
 bQ:aD
 jz:Int
structure aR where
 bQ:List bD
 jz:Int
def ec.enc (x:ec):List L:=[.sl x.bQ,.int x.jz]
def ec.dec (r:List L):ec:=⟨((ay 0 r).headD .hole).aS,((ay 1 r).headD .hole).toInt⟩
instance :RT ec:=⟨ec.enc,ec.dec,2,fun _ _=>rfl,fun _ _=>rfl⟩
def ec.at (xs:aD)(i:Nat):ec:=ec.dec (List.getD xs i [])
def aR.r (x:aR):ec:=⟨(x.bQ.map bD.row),x.jz⟩
def aR.row (x:aR):List L:=ec.enc x.r
def aR.zero:aR:=⟨[],0⟩
def aR.dA {a b:aR}(h:a.r=b.r):a=b:=by
 cases a;cases b
 simp only [aR.r,ec.mk.injEq] at h
 obtain ⟨h0,h1⟩:=h
 simp only [aR.mk.injEq]
 exact ⟨(map_inj bD.dh h0),h1⟩
def aR.dh {a b:aR}(h:aR.row a=aR.row b):a=b:=aR.dA (congrArg ec.dec h)
def aR.dN {xs:List aR}{i:Nat}:ec.at (xs.map aR.row) i=(xs.getD i aR.zero).r:=eW (r:=fun x=>aR.r x) (fun _=>rfl) rfl
def aR.sB (x:aR):(aR.r x).bQ=(x.bQ.map bD.row):=Eq.trans rfl rfl
def aR.BE (x:aR):(aR.r x).jz=x.jz:=Eq.trans rfl rfl
instance :Row aR:=⟨aR.row,aR.dh⟩
instance :Im aR ec:=⟨aR.r,aR.dA⟩
def aR.rs:(∀(xs:List aR) (i:Nat),ec.at (xs.map aR.row) i=(xs.getD i aR.zero).r)/\(∀x:aR,(aR.r x).bQ=(x.bQ.map bD.row))/\(∀x:aR,(aR.r x).jz=x.jz):=⟨fun _ _=>aR.dN,aR.sB,aR.BE⟩
def aR.Sm (n:Nat)(x:aR):Prop:=bO n (fun y:bD=>bD.Sm n y) x.bQ
def aR.size (x:aR):Nat:=eC (fun y:bD=>bD.size y) x.bQ
structure dG where
 bV:bu
 bY:Bool
 aQ:bH
 gU:Bool
 fK:aD
structure cm where
 bV:av
 bY:Bool
 aQ:ah
 gU:Bool
 fK:List Int
def dG.enc (x:dG):List L:=[.sl x.bV.aL,.sl x.bV.bp,.bool x.bY,.str x.aQ.aV,.int x.aQ.bI,.int x.aQ.bX,.sl x.aQ.bz,.bool x.gU,.sl x.fK]
def dG.dec (r:List L):dG:=⟨⟨((ay 0 r).headD .hole).aS,((ay 1 r).headD .hole).aS⟩,((ay 2 r).headD .hole).toBool,⟨((ay 3 r).headD .hole).toStr,((ay 4 r).headD .hole).toInt,((ay 5 r).headD .hole).toInt,((ay 6 r).headD .hole).aS⟩,((ay 7 r).headD .hole).toBool,((ay 8 r).headD .hole).aS⟩
instance :RT dG:=⟨dG.enc,dG.dec,9,fun _ _=>rfl,fun _ _=>rfl⟩
def dG.at (xs:aD)(i:Nat):dG:=dG.dec (List.getD xs i [])
def cm.r (x:cm):dG:=⟨(av.r x.bV),x.bY,(ah.r x.aQ),x.gU,(x.fK.map bk)⟩
def cm.row (x:cm):List L:=dG.enc x.r
def cm.zero:cm:=⟨av.zero,false,ah.zero,false,[]⟩
def cm.dA {a b:cm}(h:a.r=b.r):a=b:=by
 cases a;cases b
 simp only [cm.r,dG.mk.injEq] at h
 obtain ⟨h0,h1,h2,h3,h4⟩:=h
 simp only [cm.mk.injEq]
 exact ⟨(av.dA h0),h1,(ah.dA h2),h3,(map_inj mO h4)⟩
def cm.dh {a b:cm}(h:cm.row a=cm.row b):a=b:=cm.dA (congrArg dG.dec h)
def cm.dN {xs:List cm}{i:Nat}:dG.at (xs.map cm.row) i=(xs.getD i cm.zero).r:=eW (r:=fun x=>cm.r x) (fun _=>rfl) rfl
def cm.sG (x:cm):(cm.r x).bV=(av.r x.bV):=Eq.trans rfl rfl
def cm.rB (x:cm):(cm.r x).bY=x.bY:=Eq.trans rfl rfl
def cm.lZ (x:cm):(cm.r x).aQ=(ah.r x.aQ):=Eq.trans rfl rfl
def cm.Bi (x:cm):(cm.r x).gU=x.gU:=Eq.trans rfl rfl
def cm.zQ (x:cm):(cm.r x).fK=(x.fK.map bk):=Eq.trans rfl rfl
instance :Row cm:=⟨cm.row,cm.dh⟩
instance :Im cm dG:=⟨cm.r,cm.dA⟩
def cm.rs:(∀(xs:List cm) (i:Nat),dG.at (xs.map cm.row) i=(xs.getD i cm.zero).r)/\(∀x:cm,(cm.r x).bV=(av.r x.bV))/\(∀x:cm,(cm.r x).bY=x.bY)/\(∀x:cm,(cm.r x).aQ=(ah.r x.aQ))/\(∀x:cm,(cm.r x).gU=x.gU)/\(∀x:cm,(cm.r x).fK=(x.fK.map bk)):=⟨fun _ _=>cm.dN,cm.sG,cm.rB,cm.lZ,cm.Bi,cm.zQ⟩
def cm.Sm (n:Nat)(x:cm):Prop:=av.Sm n x.bV/\ah.Sm n x.aQ/\bO n (fun y:Int=>True) x.fK
def SS:=And.intro (And.intro S0 MM) (And.intro aO.rs (And.intro aE.rs (And.intro bn.rs (And.intro aa.rs (And.intro aF.rs (And.intro av.rs (And.intro ah.rs (And.intro aH.rs (And.intro bK.rs (And.intro aq.rs (And.intro aA.rs (And.intro aG.rs (And.intro bF.rs (And.intro dK.rs (And.intro gM.rs (And.intro bD.rs (And.intro aR.rs (And.intro cm.rs trivial))))))))))))))))))
def fz {p:Prop}(h:p:=by first | rfl | (simp only [SS];done) | (simp only [MP];rfl) | (simp only [SS,MP];first | done | rfl) | (simp only [aO.r,aE.r,aa.r,aF.r,av.r,ah.r,aH.r,bK.r,aq.r,aA.r,aG.r,bF.r,dK.r,bD.r,aR.r,cm.r,SS,MP];first | done | rfl) | (simp only [SS,MP,List.length_take,List.length_drop];first | done | rfl)):p:=h
def rq {p q:Prop}(h:p)(k:p->q:=by intro R_;first | exact R_ | (simp only [MP,SS] at R_ ⊢;first | exact R_ | (rw [<-R_];rfl))):q:=k h
end Go.DM

end
