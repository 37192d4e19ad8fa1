/- The structures of the program, as mathematical records. Conditions: none. -/
import Derived.Test.YtgagkddebgbdmaaGreatResolveFromDd
set_option linter.all false
noncomputable section
namespace Go.DM
abbrev dH (i:Nat)(l:List L):Int:=((bE i l).headD .hole).toInt
abbrev hIq (l:List L):Int:=(l.headD .hole).toInt
abbrev eR (i:Nat)(l:List L):aB:=((bE i l).headD .hole).dP
abbrev dc (l:List L):aB:=(l.headD .hole).dP
abbrev AW (i:Nat)(l:List L):Bool:=((bE i l).headD .hole).toBool
abbrev hBq (l:List L):Bool:=(l.headD .hole).toBool
abbrev qX (i:Nat)(l:List L):aE:=((bE i l).headD .hole).toStr
abbrev hTq (l:List L):aE:=(l.headD .hole).toStr
structure dz where
 aO:aB
 cO:Int
structure aR where
 aO:List Int
 cO:Int
def dz.enc (x:dz):List L:=[.sl x.aO,.int x.cO]
def dz.dec (r:List L):dz:=⟨(eR 0 r),(dH 1 r)⟩
instance :RT dz:=⟨dz.enc,dz.dec,2,fun _ _=>rfl,fun _ _=>rfl⟩
def dz.at (xs:aB)(i:Nat):dz:=dz.dec (List.getD xs i [])
def aR.r (x:aR):dz:=⟨(x.aO.map bt),x.cO⟩
def aR.row (x:aR):List L:=dz.enc x.r
def aR.zero:aR:=⟨[],0⟩
def aR.dJ {a b:aR}(h:a.r=b.r):a=b:=by
 cases a;cases b
 simp only [aR.r,dz.mk.injEq] at h
 obtain ⟨h0,h1⟩:=h
 simp only [aR.mk.injEq]
 exact ⟨(map_inj mK h0),h1⟩
def aR.dD {a b:aR}(h:aR.row a=aR.row b):a=b:=aR.dJ (congrArg dz.dec h)
def aR.dR {xs:List aR}{i:Nat}:dz.at (xs.map aR.row) i=(xs.getD i aR.zero).r:=fG (r:=fun x=>aR.r x) (fun _=>rfl) rfl
def aR.uH (x:aR):(aR.r x).aO=(x.aO.map bt):=Eq.trans rfl rfl
def aR.Bj (x:aR):(aR.r x).cO=x.cO:=Eq.trans rfl rfl
instance :Row aR:=⟨aR.row,aR.dD⟩
instance :Im aR dz:=⟨aR.r,aR.dJ⟩
def aR.rs:(∀(xs:List aR) (i:Nat),dz.at (xs.map aR.row) i=(xs.getD i aR.zero).r)/\(∀x:aR,(aR.r x).aO=(x.aO.map bt))/\(∀x:aR,(aR.r x).cO=x.cO):=⟨fun _ _=>aR.dR,aR.uH,aR.Bj⟩
def aR.Sm (n:Nat)(x:aR):Prop:=bN n (fun y:Int=>True) x.aO
def aR.size (x:aR):Nat:=eC (fun y:Int=>0) x.aO
def aR.cF {n m:Nat}(hn:n<=m){x:aR}(h:aR.Sm n x):aR.Sm m x:=h.mono hn (fun x hx=>trivial)
def aR.eZ {n:Nat}{x:aR}(h:x.size<=n):aR.Sm n x:=by
 unfold aR.size at h
 have g0:eC (fun y:Int=>0) x.aO<=n:=by omega
 exact iX g0 (fun x hx=>trivial)
structure dI where
 bz:Int
 cU:Int
 bJ:Int
 cT:Int
 cL:Int
 cE:Int
 dG:Int
 dY:Int
 bU:dz
 bF:dz
 dM:Int
 bC:dz
 bD:Bool
structure aF where
 bz:Int
 cU:Int
 bJ:Int
 cT:Int
 cL:Int
 cE:Int
 dG:Int
 dY:Int
 bU:aR
 bF:aR
 dM:Int
 bC:aR
 bD:Bool
def dI.enc (x:dI):List L:=[.int x.bz,.int x.cU,.int x.bJ,.int x.cT,.int x.cL,.int x.cE,.int x.dG,.int x.dY,.sl x.bU.aO,.int x.bU.cO,.sl x.bF.aO,.int x.bF.cO,.int x.dM,.sl x.bC.aO,.int x.bC.cO,.bool x.bD]
def dI.dec (r:List L):dI:=⟨(dH 0 r),(dH 1 r),(dH 2 r),(dH 3 r),(dH 4 r),(dH 5 r),(dH 6 r),(dH 7 r),⟨(eR 8 r),(dH 9 r)⟩,⟨(eR 10 r),(dH 11 r)⟩,(dH 12 r),⟨(eR 13 r),(dH 14 r)⟩,(AW 15 r)⟩
instance :RT dI:=⟨dI.enc,dI.dec,16,fun _ _=>rfl,fun _ _=>rfl⟩
def dI.at (xs:aB)(i:Nat):dI:=dI.dec (List.getD xs i [])
def aF.r (x:aF):dI:=⟨x.bz,x.cU,x.bJ,x.cT,x.cL,x.cE,x.dG,x.dY,(aR.r x.bU),(aR.r x.bF),x.dM,(aR.r x.bC),x.bD⟩
def aF.row (x:aF):List L:=dI.enc x.r
def aF.zero:aF:=⟨0,0,0,0,0,0,0,0,aR.zero,aR.zero,0,aR.zero,false⟩
def aF.dJ {a b:aF}(h:a.r=b.r):a=b:=by
 cases a;cases b
 simp only [aF.r,dI.mk.injEq] at h
 obtain ⟨h0,h1,h2,h3,h4,h5,h6,h7,h8,h9,h10,h11,h12⟩:=h
 simp only [aF.mk.injEq]
 exact ⟨h0,h1,h2,h3,h4,h5,h6,h7,(aR.dJ h8),(aR.dJ h9),h10,(aR.dJ h11),h12⟩
def aF.dD {a b:aF}(h:aF.row a=aF.row b):a=b:=aF.dJ (congrArg dI.dec h)
def aF.dR {xs:List aF}{i:Nat}:dI.at (xs.map aF.row) i=(xs.getD i aF.zero).r:=fG (r:=fun x=>aF.r x) (fun _=>rfl) rfl
def aF.uU (x:aF):(aF.r x).bz=x.bz:=Eq.trans rfl rfl
def aF.Aq (x:aF):(aF.r x).cU=x.cU:=Eq.trans rfl rfl
def aF.uK (x:aF):(aF.r x).bJ=x.bJ:=Eq.trans rfl rfl
def aF.Bh (x:aF):(aF.r x).cT=x.cT:=Eq.trans rfl rfl
def aF.An (x:aF):(aF.r x).cL=x.cL:=Eq.trans rfl rfl
def aF.zv (x:aF):(aF.r x).cE=x.cE:=Eq.trans rfl rfl
def aF.Bu (x:aF):(aF.r x).dG=x.dG:=Eq.trans rfl rfl
def aF.Bi (x:aF):(aF.r x).dY=x.dY:=Eq.trans rfl rfl
def aF.AV (x:aF):(aF.r x).bU=(aR.r x.bU):=Eq.trans rfl rfl
def aF.zW (x:aF):(aF.r x).bF=(aR.r x.bF):=Eq.trans rfl rfl
def aF.Br (x:aF):(aF.r x).dM=x.dM:=Eq.trans rfl rfl
def aF.zp (x:aF):(aF.r x).bC=(aR.r x.bC):=Eq.trans rfl rfl
def aF.yH (x:aF):(aF.r x).bD=x.bD:=Eq.trans rfl rfl
instance :Row aF:=⟨aF.row,aF.dD⟩
instance :Im aF dI:=⟨aF.r,aF.dJ⟩
def aF.rs:(∀(xs:List aF) (i:Nat),dI.at (xs.map aF.row) i=(xs.getD i aF.zero).r)/\(∀x:aF,(aF.r x).bz=x.bz)/\(∀x:aF,(aF.r x).cU=x.cU)/\(∀x:aF,(aF.r x).bJ=x.bJ)/\(∀x:aF,(aF.r x).cT=x.cT)/\(∀x:aF,(aF.r x).cL=x.cL)/\(∀x:aF,(aF.r x).cE=x.cE)/\(∀x:aF,(aF.r x).dG=x.dG)/\(∀x:aF,(aF.r x).dY=x.dY)/\(∀x:aF,(aF.r x).bU=(aR.r x.bU))/\(∀x:aF,(aF.r x).bF=(aR.r x.bF))/\(∀x:aF,(aF.r x).dM=x.dM)/\(∀x:aF,(aF.r x).bC=(aR.r x.bC))/\(∀x:aF,(aF.r x).bD=x.bD):=⟨fun _ _=>aF.dR,aF.uU,aF.Aq,aF.uK,aF.Bh,aF.An,aF.zv,aF.Bu,aF.Bi,aF.AV,aF.zW,aF.Br,aF.zp,aF.yH⟩
def aF.Sm (n:Nat)(x:aF):Prop:=aR.Sm n x.bU/\aR.Sm n x.bF/\aR.Sm n x.bC
def aF.size (x:aF):Nat:=aR.size x.bU+aR.size x.bF+aR.size x.bC
def aF.cF {n m:Nat}(hn:n<=m){x:aF}(h:aF.Sm n x):aF.Sm m x:=⟨aR.cF hn h.1,aR.cF hn h.2.1,aR.cF hn h.2.2⟩
def aF.eZ {n:Nat}{x:aF}(h:x.size<=n):aF.Sm n x:=by
 unfold aF.size at h
 have g0:aR.size x.bU<=n:=by omega
 have g1:aR.size x.bF<=n:=by omega
 have g2:aR.size x.bC<=n:=by omega
 exact ⟨aR.eZ g0,aR.eZ g1,aR.eZ g2⟩
structure bn where
 iD:Int
 ko:Int
def bn.enc (x:bn):List L:=[.int x.iD,.int x.ko]
def bn.dec (r:List L):bn:=⟨(dH 0 r),(dH 1 r)⟩
instance :RT bn:=⟨bn.enc,bn.dec,2,fun _ _=>rfl,fun _ _=>rfl⟩
def bn.at (xs:aB)(i:Nat):bn:=bn.dec (List.getD xs i [])
def bn.row (x:bn):List L:=bn.enc x
def bn.zero:bn:=⟨0,0⟩
def bn.dD {a b:bn}(h:bn.row a=bn.row b):a=b:=congrArg bn.dec h
def bn.eT {xs:List bn}{i:Nat}(h:i<xs.length):bn.at (xs.map bn.row) i=xs[i]:=by unfold bn.at;rw [getD_map h];rfl
def bn.dR {xs:List bn}{i:Nat}:bn.at (xs.map bn.row) i=xs.getD i bn.zero:=fG (r:=fun x=>x) (fun _=>rfl) rfl
def bn.eqc (a b:bn):(eu a.iD b.iD&&(eu a.ko b.ko&&true))=eu a b:=by
 cases a;cases b
 rw [Bool.eq_iff_iff]
 simp only [dm,Bool.and_eq_true,bn.mk.injEq,and_true]
instance :Row bn:=⟨bn.row,bn.dD⟩
instance :Im bn bn:=⟨fun x=>x,fun h=>h⟩
def bn.rs:(∀(xs:List bn) (i:Nat),bn.at (xs.map bn.row) i=xs.getD i bn.zero):=fun _ _=>bn.dR
def bn.Sm (n:Nat)(x:bn):Prop:=True
def bn.size (x:bn):Nat:=0
def bn.cF {n m:Nat}(_:n<=m){x:bn}(_:bn.Sm n x):bn.Sm m x:=trivial
def bn.eZ {n:Nat}{x:bn}(_:x.size<=n):bn.Sm n x:=trivial
structure bf where
 an:dI
 cP:aB
structure aa where
 an:aF
 cP:List bn
def bf.enc (x:bf):List L:=[.int x.an.bz,.int x.an.cU,.int x.an.bJ,.int x.an.cT,.int x.an.cL,.int x.an.cE,.int x.an.dG,.int x.an.dY,.sl x.an.bU.aO,.int x.an.bU.cO,.sl x.an.bF.aO,.int x.an.bF.cO,.int x.an.dM,.sl x.an.bC.aO,.int x.an.bC.cO,.bool x.an.bD,.sl x.cP]
def bf.dec (r:List L):bf:=⟨⟨(dH 0 r),(dH 1 r),(dH 2 r),(dH 3 r),(dH 4 r),(dH 5 r),(dH 6 r),(dH 7 r),⟨(eR 8 r),(dH 9 r)⟩,⟨(eR 10 r),(dH 11 r)⟩,(dH 12 r),⟨(eR 13 r),(dH 14 r)⟩,(AW 15 r)⟩,(eR 16 r)⟩
instance :RT bf:=⟨bf.enc,bf.dec,17,fun _ _=>rfl,fun _ _=>rfl⟩
def bf.at (xs:aB)(i:Nat):bf:=bf.dec (List.getD xs i [])
def aa.r (x:aa):bf:=⟨(aF.r x.an),(x.cP.map bn.row)⟩
def aa.row (x:aa):List L:=bf.enc x.r
def aa.zero:aa:=⟨aF.zero,[]⟩
def aa.dJ {a b:aa}(h:a.r=b.r):a=b:=by
 cases a;cases b
 simp only [aa.r,bf.mk.injEq] at h
 obtain ⟨h0,h1⟩:=h
 simp only [aa.mk.injEq]
 exact ⟨(aF.dJ h0),(map_inj bn.dD h1)⟩
def aa.dD {a b:aa}(h:aa.row a=aa.row b):a=b:=aa.dJ (congrArg bf.dec h)
def aa.eT {xs:List aa}{i:Nat}(h:i<xs.length):bf.at (xs.map aa.row) i=(xs[i]).r:=by unfold bf.at;rw [getD_map h];rfl
def aa.dR {xs:List aa}{i:Nat}:bf.at (xs.map aa.row) i=(xs.getD i aa.zero).r:=fG (r:=fun x=>aa.r x) (fun _=>rfl) rfl
def aa.Bm (x:aa):(aa.r x).an=(aF.r x.an):=Eq.trans rfl rfl
def aa.Bt (x:aa):(aa.r x).cP=(x.cP.map bn.row):=Eq.trans rfl rfl
instance :Row aa:=⟨aa.row,aa.dD⟩
instance :Im aa bf:=⟨aa.r,aa.dJ⟩
def aa.rs:(∀(xs:List aa) (i:Nat),bf.at (xs.map aa.row) i=(xs.getD i aa.zero).r)/\(∀x:aa,(aa.r x).an=(aF.r x.an))/\(∀x:aa,(aa.r x).cP=(x.cP.map bn.row)):=⟨fun _ _=>aa.dR,aa.Bm,aa.Bt⟩
def aa.Sm (n:Nat)(x:aa):Prop:=aF.Sm n x.an/\bN n (fun y:bn=>bn.Sm n y) x.cP
def aa.size (x:aa):Nat:=aF.size x.an+eC (fun y:bn=>bn.size y) x.cP
def aa.cF {n m:Nat}(hn:n<=m){x:aa}(h:aa.Sm n x):aa.Sm m x:=⟨aF.cF hn h.1,h.2.mono hn (fun x hx=>bn.cF hn hx)⟩
def aa.eZ {n:Nat}{x:aa}(h:x.size<=n):aa.Sm n x:=by
 unfold aa.size at h
 have g0:aF.size x.an<=n:=by omega
 have g1:eC (fun y:bn=>bn.size y) x.cP<=n:=by omega
 exact ⟨aF.eZ g0,iX g1 (fun x hx=>bn.eZ hx)⟩
structure bO where
 aN:bf
 fA:bf
 fB:bf
structure aG where
 aN:aa
 fA:aa
 fB:aa
def bO.enc (x:bO):List L:=[.int x.aN.an.bz,.int x.aN.an.cU,.int x.aN.an.bJ,.int x.aN.an.cT,.int x.aN.an.cL,.int x.aN.an.cE,.int x.aN.an.dG,.int x.aN.an.dY,.sl x.aN.an.bU.aO,.int x.aN.an.bU.cO,.sl x.aN.an.bF.aO,.int x.aN.an.bF.cO,.int x.aN.an.dM,.sl x.aN.an.bC.aO,.int x.aN.an.bC.cO,.bool x.aN.an.bD,.sl x.aN.cP,.int x.fA.an.bz,.int x.fA.an.cU,.int x.fA.an.bJ,.int x.fA.an.cT,.int x.fA.an.cL,.int x.fA.an.cE,.int x.fA.an.dG,.int x.fA.an.dY,.sl x.fA.an.bU.aO,.int x.fA.an.bU.cO,.sl x.fA.an.bF.aO,.int x.fA.an.bF.cO,.int x.fA.an.dM,.sl x.fA.an.bC.aO,.int x.fA.an.bC.cO,.bool x.fA.an.bD,.sl x.fA.cP,.int x.fB.an.bz,.int x.fB.an.cU,.int x.fB.an.bJ,.int x.fB.an.cT,.int x.fB.an.cL,.int x.fB.an.cE,.int x.fB.an.dG,.int x.fB.an.dY,.sl x.fB.an.bU.aO,.int x.fB.an.bU.cO,.sl x.fB.an.bF.aO,.int x.fB.an.bF.cO,.int x.fB.an.dM,.sl x.fB.an.bC.aO,.int x.fB.an.bC.cO,.bool x.fB.an.bD,.sl x.fB.cP]
def bO.dec (r:List L):bO:=⟨⟨⟨(dH 0 r),(dH 1 r),(dH 2 r),(dH 3 r),(dH 4 r),(dH 5 r),(dH 6 r),(dH 7 r),⟨(eR 8 r),(dH 9 r)⟩,⟨(eR 10 r),(dH 11 r)⟩,(dH 12 r),⟨(eR 13 r),(dH 14 r)⟩,(AW 15 r)⟩,(eR 16 r)⟩,⟨⟨(dH 17 r),(dH 18 r),(dH 19 r),(dH 20 r),(dH 21 r),(dH 22 r),(dH 23 r),(dH 24 r),⟨(eR 25 r),(dH 26 r)⟩,⟨(eR 27 r),(dH 28 r)⟩,(dH 29 r),⟨(eR 30 r),(dH 31 r)⟩,(AW 32 r)⟩,(eR 33 r)⟩,⟨⟨(dH 34 r),(dH 35 r),(dH 36 r),(dH 37 r),(dH 38 r),(dH 39 r),(dH 40 r),(dH 41 r),⟨(eR 42 r),(dH 43 r)⟩,⟨(eR 44 r),(dH 45 r)⟩,(dH 46 r),⟨(eR 47 r),(dH 48 r)⟩,(AW 49 r)⟩,(eR 50 r)⟩⟩
instance :RT bO:=⟨bO.enc,bO.dec,51,fun _ _=>rfl,fun _ _=>rfl⟩
def bO.at (xs:aB)(i:Nat):bO:=bO.dec (List.getD xs i [])
def aG.r (x:aG):bO:=⟨(aa.r x.aN),(aa.r x.fA),(aa.r x.fB)⟩
def aG.row (x:aG):List L:=bO.enc x.r
def aG.zero:aG:=⟨aa.zero,aa.zero,aa.zero⟩
def aG.dJ {a b:aG}(h:a.r=b.r):a=b:=by
 cases a;cases b
 simp only [aG.r,bO.mk.injEq] at h
 obtain ⟨h0,h1,h2⟩:=h
 simp only [aG.mk.injEq]
 exact ⟨(aa.dJ h0),(aa.dJ h1),(aa.dJ h2)⟩
def aG.dD {a b:aG}(h:aG.row a=aG.row b):a=b:=aG.dJ (congrArg bO.dec h)
def aG.eT {xs:List aG}{i:Nat}(h:i<xs.length):bO.at (xs.map aG.row) i=(xs[i]).r:=by unfold bO.at;rw [getD_map h];rfl
def aG.dR {xs:List aG}{i:Nat}:bO.at (xs.map aG.row) i=(xs.getD i aG.zero).r:=fG (r:=fun x=>aG.r x) (fun _=>rfl) rfl
def aG.qg (x:aG):(aG.r x).aN=(aa.r x.aN):=Eq.trans rfl rfl
def aG.DF (x:aG):(aG.r x).fA=(aa.r x.fA):=Eq.trans rfl rfl
def aG.Db (x:aG):(aG.r x).fB=(aa.r x.fB):=Eq.trans rfl rfl
instance :Row aG:=⟨aG.row,aG.dD⟩
instance :Im aG bO:=⟨aG.r,aG.dJ⟩
def aG.rs:(∀(xs:List aG) (i:Nat),bO.at (xs.map aG.row) i=(xs.getD i aG.zero).r)/\(∀x:aG,(aG.r x).aN=(aa.r x.aN))/\(∀x:aG,(aG.r x).fA=(aa.r x.fA))/\(∀x:aG,(aG.r x).fB=(aa.r x.fB)):=⟨fun _ _=>aG.dR,aG.qg,aG.DF,aG.Db⟩
def aG.Sm (n:Nat)(x:aG):Prop:=aa.Sm n x.aN/\aa.Sm n x.fA/\aa.Sm n x.fB
def aG.size (x:aG):Nat:=aa.size x.aN+aa.size x.fA+aa.size x.fB
def aG.cF {n m:Nat}(hn:n<=m){x:aG}(h:aG.Sm n x):aG.Sm m x:=⟨aa.cF hn h.1,aa.cF hn h.2.1,aa.cF hn h.2.2⟩
def aG.eZ {n:Nat}{x:aG}(h:x.size<=n):aG.Sm n x:=by
 unfold aG.size at h
 have g0:aa.size x.aN<=n:=by omega
 have g1:aa.size x.fA<=n:=by omega
 have g2:aa.size x.fB<=n:=by omega
 exact ⟨aa.eZ g0,aa.eZ g1,aa.eZ g2⟩
structure bA where
 aM:aB
 bu:aB
structure aA where
 aM:List (List aa)
 bu:List aG
def bA.enc (x:bA):List L:=[.sl x.aM,.sl x.bu]
def bA.dec (r:List L):bA:=⟨(eR 0 r),(eR 1 r)⟩
instance :RT bA:=⟨bA.enc,bA.dec,2,fun _ _=>rfl,fun _ _=>rfl⟩
def bA.at (xs:aB)(i:Nat):bA:=bA.dec (List.getD xs i [])
def aA.r (x:aA):bA:=⟨(x.aM.map (eK aa.row)),(x.bu.map aG.row)⟩
def aA.row (x:aA):List L:=bA.enc x.r
def aA.zero:aA:=⟨[],[]⟩
def aA.dJ {a b:aA}(h:a.r=b.r):a=b:=by
 cases a;cases b
 simp only [aA.r,bA.mk.injEq] at h
 obtain ⟨h0,h1⟩:=h
 simp only [aA.mk.injEq]
 exact ⟨(map_inj (wU aa.dD) h0),(map_inj aG.dD h1)⟩
def aA.dD {a b:aA}(h:aA.row a=aA.row b):a=b:=aA.dJ (congrArg bA.dec h)
def aA.dR {xs:List aA}{i:Nat}:bA.at (xs.map aA.row) i=(xs.getD i aA.zero).r:=fG (r:=fun x=>aA.r x) (fun _=>rfl) rfl
def aA.zd (x:aA):(aA.r x).aM=(x.aM.map (eK aa.row)):=Eq.trans rfl rfl
def aA.AK (x:aA):(aA.r x).bu=(x.bu.map aG.row):=Eq.trans rfl rfl
instance :Row aA:=⟨aA.row,aA.dD⟩
instance :Im aA bA:=⟨aA.r,aA.dJ⟩
def aA.rs:(∀(xs:List aA) (i:Nat),bA.at (xs.map aA.row) i=(xs.getD i aA.zero).r)/\(∀x:aA,(aA.r x).aM=(x.aM.map (eK aa.row)))/\(∀x:aA,(aA.r x).bu=(x.bu.map aG.row)):=⟨fun _ _=>aA.dR,aA.zd,aA.AK⟩
def aA.Sm (n:Nat)(x:aA):Prop:=bN n (fun y:List aa=>bN n (fun y:aa=>aa.Sm n y) y) x.aM/\bN n (fun y:aG=>aG.Sm n y) x.bu
def aA.size (x:aA):Nat:=eC (fun y:List aa=>eC (fun y:aa=>aa.size y) y) x.aM+eC (fun y:aG=>aG.size y) x.bu
def aA.cF {n m:Nat}(hn:n<=m){x:aA}(h:aA.Sm n x):aA.Sm m x:=⟨h.1.mono hn (fun x hx=>hx.mono hn (fun x hx=>aa.cF hn hx)),h.2.mono hn (fun x hx=>aG.cF hn hx)⟩
def aA.eZ {n:Nat}{x:aA}(h:x.size<=n):aA.Sm n x:=by
 unfold aA.size at h
 have g0:eC (fun y:List aa=>eC (fun y:aa=>aa.size y) y) x.aM<=n:=by omega
 have g1:eC (fun y:aG=>aG.size y) x.bu<=n:=by omega
 exact ⟨iX g0 (fun x hx=>iX hx (fun x hx=>aa.eZ hx)),iX g1 (fun x hx=>aG.eZ hx)⟩
structure bK where
 aV:aE
 bJ:Int
 bX:Int
 bh:aB
structure ah where
 aV:aE
 bJ:Int
 bX:Int
 bh:List aE
def bK.enc (x:bK):List L:=[.str x.aV,.int x.bJ,.int x.bX,.sl x.bh]
def bK.dec (r:List L):bK:=⟨(qX 0 r),(dH 1 r),(dH 2 r),(eR 3 r)⟩
instance :RT bK:=⟨bK.enc,bK.dec,4,fun _ _=>rfl,fun _ _=>rfl⟩
def bK.at (xs:aB)(i:Nat):bK:=bK.dec (List.getD xs i [])
def ah.r (x:ah):bK:=⟨x.aV,x.bJ,x.bX,(x.bh.map cX)⟩
def ah.row (x:ah):List L:=bK.enc x.r
def ah.zero:ah:=⟨⟨#[]⟩,0,0,[]⟩
def ah.dJ {a b:ah}(h:a.r=b.r):a=b:=by
 cases a;cases b
 simp only [ah.r,bK.mk.injEq] at h
 obtain ⟨h0,h1,h2,h3⟩:=h
 simp only [ah.mk.injEq]
 exact ⟨h0,h1,h2,(map_inj vP h3)⟩
def ah.dD {a b:ah}(h:ah.row a=ah.row b):a=b:=ah.dJ (congrArg bK.dec h)
def ah.eT {xs:List ah}{i:Nat}(h:i<xs.length):bK.at (xs.map ah.row) i=(xs[i]).r:=by unfold bK.at;rw [getD_map h];rfl
def ah.dR {xs:List ah}{i:Nat}:bK.at (xs.map ah.row) i=(xs.getD i ah.zero).r:=fG (r:=fun x=>ah.r x) (fun _=>rfl) rfl
def ah.rZ (x:ah):(ah.r x).aV=x.aV:=Eq.trans rfl rfl
def ah.uK (x:ah):(ah.r x).bJ=x.bJ:=Eq.trans rfl rfl
def ah.AE (x:ah):(ah.r x).bX=x.bX:=Eq.trans rfl rfl
def ah.uI (x:ah):(ah.r x).bh=(x.bh.map cX):=Eq.trans rfl rfl
instance :Row ah:=⟨ah.row,ah.dD⟩
instance :Im ah bK:=⟨ah.r,ah.dJ⟩
def ah.rs:(∀(xs:List ah) (i:Nat),bK.at (xs.map ah.row) i=(xs.getD i ah.zero).r)/\(∀x:ah,(ah.r x).aV=x.aV)/\(∀x:ah,(ah.r x).bJ=x.bJ)/\(∀x:ah,(ah.r x).bX=x.bX)/\(∀x:ah,(ah.r x).bh=(x.bh.map cX)):=⟨fun _ _=>ah.dR,ah.rZ,ah.uK,ah.AE,ah.uI⟩
def ah.Sm (n:Nat)(x:ah):Prop:=(x.aV).size<=n/\bN n (fun y:aE=>(y).size<=n) x.bh
def ah.size (x:ah):Nat:=(x.aV).size+eC (fun y:aE=>(y).size) x.bh
def ah.cF {n m:Nat}(hn:n<=m){x:ah}(h:ah.Sm n x):ah.Sm m x:=⟨Nat.le_trans h.1 hn,h.2.mono hn (fun x hx=>Nat.le_trans hx hn)⟩
def ah.eZ {n:Nat}{x:ah}(h:x.size<=n):ah.Sm n x:=by
 unfold ah.size at h
 have g0:(x.aV).size<=n:=by omega
 have g1:eC (fun y:aE=>(y).size) x.bh<=n:=by omega
 exact ⟨g0,iX g1 (fun x hx=>hx)⟩
structure dX where
 eG:Int
 bh:aB
structure aL where
 eG:Int
 bh:List Int
def dX.enc (x:dX):List L:=[.int x.eG,.sl x.bh]
def dX.dec (r:List L):dX:=⟨(dH 0 r),(eR 1 r)⟩
instance :RT dX:=⟨dX.enc,dX.dec,2,fun _ _=>rfl,fun _ _=>rfl⟩
def dX.at (xs:aB)(i:Nat):dX:=dX.dec (List.getD xs i [])
def aL.r (x:aL):dX:=⟨x.eG,(x.bh.map bt)⟩
def aL.row (x:aL):List L:=dX.enc x.r
def aL.zero:aL:=⟨0,[]⟩
def aL.dJ {a b:aL}(h:a.r=b.r):a=b:=by
 cases a;cases b
 simp only [aL.r,dX.mk.injEq] at h
 obtain ⟨h0,h1⟩:=h
 simp only [aL.mk.injEq]
 exact ⟨h0,(map_inj mK h1)⟩
def aL.dD {a b:aL}(h:aL.row a=aL.row b):a=b:=aL.dJ (congrArg dX.dec h)
def aL.dR {xs:List aL}{i:Nat}:dX.at (xs.map aL.row) i=(xs.getD i aL.zero).r:=fG (r:=fun x=>aL.r x) (fun _=>rfl) rfl
def aL.zS (x:aL):(aL.r x).eG=x.eG:=Eq.trans rfl rfl
def aL.uI (x:aL):(aL.r x).bh=(x.bh.map bt):=Eq.trans rfl rfl
instance :Row aL:=⟨aL.row,aL.dD⟩
instance :Im aL dX:=⟨aL.r,aL.dJ⟩
def aL.rs:(∀(xs:List aL) (i:Nat),dX.at (xs.map aL.row) i=(xs.getD i aL.zero).r)/\(∀x:aL,(aL.r x).eG=x.eG)/\(∀x:aL,(aL.r x).bh=(x.bh.map bt)):=⟨fun _ _=>aL.dR,aL.zS,aL.uI⟩
def aL.Sm (n:Nat)(x:aL):Prop:=bN n (fun y:Int=>True) x.bh
def aL.size (x:aL):Nat:=eC (fun y:Int=>0) x.bh
def aL.cF {n m:Nat}(hn:n<=m){x:aL}(h:aL.Sm n x):aL.Sm m x:=h.mono hn (fun x hx=>trivial)
def aL.eZ {n:Nat}{x:aL}(h:x.size<=n):aL.Sm n x:=by
 unfold aL.size at h
 have g0:eC (fun y:Int=>0) x.bh<=n:=by omega
 exact iX g0 (fun x hx=>trivial)
structure ff where
 eG:Int
 aN:bK
 bT:bK
 dN:dX
 cA:dX
structure bL where
 eG:Int
 aN:ah
 bT:ah
 dN:aL
 cA:aL
def ff.enc (x:ff):List L:=[.int x.eG,.str x.aN.aV,.int x.aN.bJ,.int x.aN.bX,.sl x.aN.bh,.str x.bT.aV,.int x.bT.bJ,.int x.bT.bX,.sl x.bT.bh,.int x.dN.eG,.sl x.dN.bh,.int x.cA.eG,.sl x.cA.bh]
def ff.dec (r:List L):ff:=⟨(dH 0 r),⟨(qX 1 r),(dH 2 r),(dH 3 r),(eR 4 r)⟩,⟨(qX 5 r),(dH 6 r),(dH 7 r),(eR 8 r)⟩,⟨(dH 9 r),(eR 10 r)⟩,⟨(dH 11 r),(eR 12 r)⟩⟩
instance :RT ff:=⟨ff.enc,ff.dec,13,fun _ _=>rfl,fun _ _=>rfl⟩
def ff.at (xs:aB)(i:Nat):ff:=ff.dec (List.getD xs i [])
def bL.r (x:bL):ff:=⟨x.eG,(ah.r x.aN),(ah.r x.bT),(aL.r x.dN),(aL.r x.cA)⟩
def bL.row (x:bL):List L:=ff.enc x.r
def bL.zero:bL:=⟨0,ah.zero,ah.zero,aL.zero,aL.zero⟩
def bL.dJ {a b:bL}(h:a.r=b.r):a=b:=by
 cases a;cases b
 simp only [bL.r,ff.mk.injEq] at h
 obtain ⟨h0,h1,h2,h3,h4⟩:=h
 simp only [bL.mk.injEq]
 exact ⟨h0,(ah.dJ h1),(ah.dJ h2),(aL.dJ h3),(aL.dJ h4)⟩
def bL.dD {a b:bL}(h:bL.row a=bL.row b):a=b:=bL.dJ (congrArg ff.dec h)
def bL.dR {xs:List bL}{i:Nat}:ff.at (xs.map bL.row) i=(xs.getD i bL.zero).r:=fG (r:=fun x=>bL.r x) (fun _=>rfl) rfl
def bL.zS (x:bL):(bL.r x).eG=x.eG:=Eq.trans rfl rfl
def bL.qg (x:bL):(bL.r x).aN=(ah.r x.aN):=Eq.trans rfl rfl
def bL.Aw (x:bL):(bL.r x).bT=(ah.r x.bT):=Eq.trans rfl rfl
def bL.A4 (x:bL):(bL.r x).dN=(aL.r x.dN):=Eq.trans rfl rfl
def bL.As (x:bL):(bL.r x).cA=(aL.r x.cA):=Eq.trans rfl rfl
instance :Row bL:=⟨bL.row,bL.dD⟩
instance :Im bL ff:=⟨bL.r,bL.dJ⟩
def bL.rs:(∀(xs:List bL) (i:Nat),ff.at (xs.map bL.row) i=(xs.getD i bL.zero).r)/\(∀x:bL,(bL.r x).eG=x.eG)/\(∀x:bL,(bL.r x).aN=(ah.r x.aN))/\(∀x:bL,(bL.r x).bT=(ah.r x.bT))/\(∀x:bL,(bL.r x).dN=(aL.r x.dN))/\(∀x:bL,(bL.r x).cA=(aL.r x.cA)):=⟨fun _ _=>bL.dR,bL.zS,bL.qg,bL.Aw,bL.A4,bL.As⟩
def bL.Sm (n:Nat)(x:bL):Prop:=ah.Sm n x.aN/\ah.Sm n x.bT/\aL.Sm n x.dN/\aL.Sm n x.cA
def bL.size (x:bL):Nat:=ah.size x.aN+ah.size x.bT+aL.size x.dN+aL.size x.cA
def bL.cF {n m:Nat}(hn:n<=m){x:bL}(h:bL.Sm n x):bL.Sm m x:=⟨ah.cF hn h.1,ah.cF hn h.2.1,aL.cF hn h.2.2.1,aL.cF hn h.2.2.2⟩
def bL.eZ {n:Nat}{x:bL}(h:x.size<=n):bL.Sm n x:=by
 unfold bL.size at h
 have g0:ah.size x.aN<=n:=by omega
 have g1:ah.size x.bT<=n:=by omega
 have g2:aL.size x.dN<=n:=by omega
 have g3:aL.size x.cA<=n:=by omega
 exact ⟨ah.eZ g0,ah.eZ g1,aL.eZ g2,aL.eZ g3⟩
structure bq where
 aQ:aB
 cj:Bool
 aS:bK
 dy:dX
 dA:ff
structure aq where
 aQ:List aa
 cj:Bool
 aS:ah
 dy:aL
 dA:bL
def bq.enc (x:bq):List L:=[.sl x.aQ,.bool x.cj,.str x.aS.aV,.int x.aS.bJ,.int x.aS.bX,.sl x.aS.bh,.int x.dy.eG,.sl x.dy.bh,.int x.dA.eG,.str x.dA.aN.aV,.int x.dA.aN.bJ,.int x.dA.aN.bX,.sl x.dA.aN.bh,.str x.dA.bT.aV,.int x.dA.bT.bJ,.int x.dA.bT.bX,.sl x.dA.bT.bh,.int x.dA.dN.eG,.sl x.dA.dN.bh,.int x.dA.cA.eG,.sl x.dA.cA.bh]
def bq.dec (r:List L):bq:=⟨(eR 0 r),(AW 1 r),⟨(qX 2 r),(dH 3 r),(dH 4 r),(eR 5 r)⟩,⟨(dH 6 r),(eR 7 r)⟩,⟨(dH 8 r),⟨(qX 9 r),(dH 10 r),(dH 11 r),(eR 12 r)⟩,⟨(qX 13 r),(dH 14 r),(dH 15 r),(eR 16 r)⟩,⟨(dH 17 r),(eR 18 r)⟩,⟨(dH 19 r),(eR 20 r)⟩⟩⟩
instance :RT bq:=⟨bq.enc,bq.dec,21,fun _ _=>rfl,fun _ _=>rfl⟩
def bq.at (xs:aB)(i:Nat):bq:=bq.dec (List.getD xs i [])
def aq.r (x:aq):bq:=⟨(x.aQ.map aa.row),x.cj,(ah.r x.aS),(aL.r x.dy),(bL.r x.dA)⟩
def aq.row (x:aq):List L:=bq.enc x.r
def aq.zero:aq:=⟨[],false,ah.zero,aL.zero,bL.zero⟩
def aq.dJ {a b:aq}(h:a.r=b.r):a=b:=by
 cases a;cases b
 simp only [aq.r,bq.mk.injEq] at h
 obtain ⟨h0,h1,h2,h3,h4⟩:=h
 simp only [aq.mk.injEq]
 exact ⟨(map_inj aa.dD h0),h1,(ah.dJ h2),(aL.dJ h3),(bL.dJ h4)⟩
def aq.dD {a b:aq}(h:aq.row a=aq.row b):a=b:=aq.dJ (congrArg bq.dec h)
def aq.dR {xs:List aq}{i:Nat}:bq.at (xs.map aq.row) i=(xs.getD i aq.zero).r:=fG (r:=fun x=>aq.r x) (fun _=>rfl) rfl
def aq.sE (x:aq):(aq.r x).aQ=(x.aQ.map aa.row):=Eq.trans rfl rfl
def aq.sy (x:aq):(aq.r x).cj=x.cj:=Eq.trans rfl rfl
def aq.mI (x:aq):(aq.r x).aS=(ah.r x.aS):=Eq.trans rfl rfl
def aq.zH (x:aq):(aq.r x).dy=(aL.r x.dy):=Eq.trans rfl rfl
def aq.Cb (x:aq):(aq.r x).dA=(bL.r x.dA):=Eq.trans rfl rfl
instance :Row aq:=⟨aq.row,aq.dD⟩
instance :Im aq bq:=⟨aq.r,aq.dJ⟩
def aq.rs:(∀(xs:List aq) (i:Nat),bq.at (xs.map aq.row) i=(xs.getD i aq.zero).r)/\(∀x:aq,(aq.r x).aQ=(x.aQ.map aa.row))/\(∀x:aq,(aq.r x).cj=x.cj)/\(∀x:aq,(aq.r x).aS=(ah.r x.aS))/\(∀x:aq,(aq.r x).dy=(aL.r x.dy))/\(∀x:aq,(aq.r x).dA=(bL.r x.dA)):=⟨fun _ _=>aq.dR,aq.sE,aq.sy,aq.mI,aq.zH,aq.Cb⟩
def aq.Sm (n:Nat)(x:aq):Prop:=bN n (fun y:aa=>aa.Sm n y) x.aQ/\ah.Sm n x.aS/\aL.Sm n x.dy/\bL.Sm n x.dA
def aq.size (x:aq):Nat:=eC (fun y:aa=>aa.size y) x.aQ+ah.size x.aS+aL.size x.dy+bL.size x.dA
def aq.cF {n m:Nat}(hn:n<=m){x:aq}(h:aq.Sm n x):aq.Sm m x:=⟨h.1.mono hn (fun x hx=>aa.cF hn hx),ah.cF hn h.2.1,aL.cF hn h.2.2.1,bL.cF hn h.2.2.2⟩
def aq.eZ {n:Nat}{x:aq}(h:x.size<=n):aq.Sm n x:=by
 unfold aq.size at h
 have g0:eC (fun y:aa=>aa.size y) x.aQ<=n:=by omega
 have g1:ah.size x.aS<=n:=by omega
 have g2:aL.size x.dy<=n:=by omega
 have g3:bL.size x.dA<=n:=by omega
 exact ⟨iX g0 (fun x hx=>aa.eZ hx),ah.eZ g1,aL.eZ g2,bL.eZ g3⟩
structure bP where
 bz:Int
 aV:aE
 bk:bq
structure av where
 bz:Int
 aV:aE
 bk:aq
def bP.enc (x:bP):List L:=[.int x.bz,.str x.aV,.sl x.bk.aQ,.bool x.bk.cj,.str x.bk.aS.aV,.int x.bk.aS.bJ,.int x.bk.aS.bX,.sl x.bk.aS.bh,.int x.bk.dy.eG,.sl x.bk.dy.bh,.int x.bk.dA.eG,.str x.bk.dA.aN.aV,.int x.bk.dA.aN.bJ,.int x.bk.dA.aN.bX,.sl x.bk.dA.aN.bh,.str x.bk.dA.bT.aV,.int x.bk.dA.bT.bJ,.int x.bk.dA.bT.bX,.sl x.bk.dA.bT.bh,.int x.bk.dA.dN.eG,.sl x.bk.dA.dN.bh,.int x.bk.dA.cA.eG,.sl x.bk.dA.cA.bh]
def bP.dec (r:List L):bP:=⟨(dH 0 r),(qX 1 r),⟨(eR 2 r),(AW 3 r),⟨(qX 4 r),(dH 5 r),(dH 6 r),(eR 7 r)⟩,⟨(dH 8 r),(eR 9 r)⟩,⟨(dH 10 r),⟨(qX 11 r),(dH 12 r),(dH 13 r),(eR 14 r)⟩,⟨(qX 15 r),(dH 16 r),(dH 17 r),(eR 18 r)⟩,⟨(dH 19 r),(eR 20 r)⟩,⟨(dH 21 r),(eR 22 r)⟩⟩⟩⟩
instance :RT bP:=⟨bP.enc,bP.dec,23,fun _ _=>rfl,fun _ _=>rfl⟩
def bP.at (xs:aB)(i:Nat):bP:=bP.dec (List.getD xs i [])
def av.r (x:av):bP:=⟨x.bz,x.aV,(aq.r x.bk)⟩
def av.row (x:av):List L:=bP.enc x.r
def av.zero:av:=⟨0,⟨#[]⟩,aq.zero⟩
def av.dJ {a b:av}(h:a.r=b.r):a=b:=by
 cases a;cases b
 simp only [av.r,bP.mk.injEq] at h
 obtain ⟨h0,h1,h2⟩:=h
 simp only [av.mk.injEq]
 exact ⟨h0,h1,(aq.dJ h2)⟩
def av.dD {a b:av}(h:av.row a=av.row b):a=b:=av.dJ (congrArg bP.dec h)
def av.eT {xs:List av}{i:Nat}(h:i<xs.length):bP.at (xs.map av.row) i=(xs[i]).r:=by unfold bP.at;rw [getD_map h];rfl
def av.dR {xs:List av}{i:Nat}:bP.at (xs.map av.row) i=(xs.getD i av.zero).r:=fG (r:=fun x=>av.r x) (fun _=>rfl) rfl
def av.uU (x:av):(av.r x).bz=x.bz:=Eq.trans rfl rfl
def av.rZ (x:av):(av.r x).aV=x.aV:=Eq.trans rfl rfl
def av.yV (x:av):(av.r x).bk=(aq.r x.bk):=Eq.trans rfl rfl
instance :Row av:=⟨av.row,av.dD⟩
instance :Im av bP:=⟨av.r,av.dJ⟩
def av.rs:(∀(xs:List av) (i:Nat),bP.at (xs.map av.row) i=(xs.getD i av.zero).r)/\(∀x:av,(av.r x).bz=x.bz)/\(∀x:av,(av.r x).aV=x.aV)/\(∀x:av,(av.r x).bk=(aq.r x.bk)):=⟨fun _ _=>av.dR,av.uU,av.rZ,av.yV⟩
def av.Sm (n:Nat)(x:av):Prop:=(x.aV).size<=n/\aq.Sm n x.bk
def av.size (x:av):Nat:=(x.aV).size+aq.size x.bk
def av.cF {n m:Nat}(hn:n<=m){x:av}(h:av.Sm n x):av.Sm m x:=⟨Nat.le_trans h.1 hn,aq.cF hn h.2⟩
def av.eZ {n:Nat}{x:av}(h:x.size<=n):av.Sm n x:=by
 unfold av.size at h
 have g0:(x.aV).size<=n:=by omega
 have g1:aq.size x.bk<=n:=by omega
 exact ⟨g0,aq.eZ g1⟩
structure cH where
 aO:aB
structure aJ where
 aO:List av
def cH.enc (x:cH):List L:=[.sl x.aO]
def cH.dec (r:List L):cH:=⟨(eR 0 r)⟩
instance :RT cH:=⟨cH.enc,cH.dec,1,fun _ _=>rfl,fun _ _=>rfl⟩
def cH.at (xs:aB)(i:Nat):cH:=cH.dec (List.getD xs i [])
def aJ.r (x:aJ):cH:=⟨(x.aO.map av.row)⟩
def aJ.row (x:aJ):List L:=cH.enc x.r
def aJ.zero:aJ:=⟨[]⟩
def aJ.dJ {a b:aJ}(h:a.r=b.r):a=b:=by
 cases a;cases b
 simp only [aJ.r,cH.mk.injEq] at h
 have h0:=h
 simp only [aJ.mk.injEq]
 exact (map_inj av.dD h0)
def aJ.dD {a b:aJ}(h:aJ.row a=aJ.row b):a=b:=aJ.dJ (congrArg cH.dec h)
def aJ.dR {xs:List aJ}{i:Nat}:cH.at (xs.map aJ.row) i=(xs.getD i aJ.zero).r:=fG (r:=fun x=>aJ.r x) (fun _=>rfl) rfl
def aJ.uH (x:aJ):(aJ.r x).aO=(x.aO.map av.row):=Eq.trans rfl rfl
instance :Row aJ:=⟨aJ.row,aJ.dD⟩
instance :Im aJ cH:=⟨aJ.r,aJ.dJ⟩
def aJ.rs:(∀(xs:List aJ) (i:Nat),cH.at (xs.map aJ.row) i=(xs.getD i aJ.zero).r)/\(∀x:aJ,(aJ.r x).aO=(x.aO.map av.row)):=⟨fun _ _=>aJ.dR,aJ.uH⟩
def aJ.Sm (n:Nat)(x:aJ):Prop:=bN n (fun y:av=>av.Sm n y) x.aO
def aJ.size (x:aJ):Nat:=eC (fun y:av=>av.size y) x.aO
def aJ.cF {n m:Nat}(hn:n<=m){x:aJ}(h:aJ.Sm n x):aJ.Sm m x:=h.mono hn (fun x hx=>av.cF hn hx)
def aJ.eZ {n:Nat}{x:aJ}(h:x.size<=n):aJ.Sm n x:=by
 unfold aJ.size at h
 have g0:eC (fun y:av=>av.size y) x.aO<=n:=by omega
 exact iX g0 (fun x hx=>av.eZ hx)
structure dU where
 cg:bA
 ij:Int
 aS:bK
 bM:aB
 fV:Int
structure bH where
 cg:aA
 ij:Int
 aS:ah
 bM:List Int
 fV:Int
def dU.enc (x:dU):List L:=[.sl x.cg.aM,.sl x.cg.bu,.int x.ij,.str x.aS.aV,.int x.aS.bJ,.int x.aS.bX,.sl x.aS.bh,.sl x.bM,.int x.fV]
def dU.dec (r:List L):dU:=⟨⟨(eR 0 r),(eR 1 r)⟩,(dH 2 r),⟨(qX 3 r),(dH 4 r),(dH 5 r),(eR 6 r)⟩,(eR 7 r),(dH 8 r)⟩
instance :RT dU:=⟨dU.enc,dU.dec,9,fun _ _=>rfl,fun _ _=>rfl⟩
def dU.at (xs:aB)(i:Nat):dU:=dU.dec (List.getD xs i [])
def bH.r (x:bH):dU:=⟨(aA.r x.cg),x.ij,(ah.r x.aS),(x.bM.map bt),x.fV⟩
def bH.row (x:bH):List L:=dU.enc x.r
def bH.zero:bH:=⟨aA.zero,0,ah.zero,[],0⟩
def bH.dJ {a b:bH}(h:a.r=b.r):a=b:=by
 cases a;cases b
 simp only [bH.r,dU.mk.injEq] at h
 obtain ⟨h0,h1,h2,h3,h4⟩:=h
 simp only [bH.mk.injEq]
 exact ⟨(aA.dJ h0),h1,(ah.dJ h2),(map_inj mK h3),h4⟩
def bH.dD {a b:bH}(h:bH.row a=bH.row b):a=b:=bH.dJ (congrArg dU.dec h)
def bH.dR {xs:List bH}{i:Nat}:dU.at (xs.map bH.row) i=(xs.getD i bH.zero).r:=fG (r:=fun x=>bH.r x) (fun _=>rfl) rfl
def bH.rJ (x:bH):(bH.r x).cg=(aA.r x.cg):=Eq.trans rfl rfl
def bH.By (x:bH):(bH.r x).ij=x.ij:=Eq.trans rfl rfl
def bH.mI (x:bH):(bH.r x).aS=(ah.r x.aS):=Eq.trans rfl rfl
def bH.sP (x:bH):(bH.r x).bM=(x.bM.map bt):=Eq.trans rfl rfl
def bH.zN (x:bH):(bH.r x).fV=x.fV:=Eq.trans rfl rfl
instance :Row bH:=⟨bH.row,bH.dD⟩
instance :Im bH dU:=⟨bH.r,bH.dJ⟩
def bH.rs:(∀(xs:List bH) (i:Nat),dU.at (xs.map bH.row) i=(xs.getD i bH.zero).r)/\(∀x:bH,(bH.r x).cg=(aA.r x.cg))/\(∀x:bH,(bH.r x).ij=x.ij)/\(∀x:bH,(bH.r x).aS=(ah.r x.aS))/\(∀x:bH,(bH.r x).bM=(x.bM.map bt))/\(∀x:bH,(bH.r x).fV=x.fV):=⟨fun _ _=>bH.dR,bH.rJ,bH.By,bH.mI,bH.sP,bH.zN⟩
def bH.size (x:bH):Nat:=aA.size x.cg+ah.size x.aS+eC (fun y:Int=>0) x.bM
structure eB where
 cN:dU
 gD:cH
structure cK where
 cN:bH
 gD:aJ
def eB.enc (x:eB):List L:=[.sl x.cN.cg.aM,.sl x.cN.cg.bu,.int x.cN.ij,.str x.cN.aS.aV,.int x.cN.aS.bJ,.int x.cN.aS.bX,.sl x.cN.aS.bh,.sl x.cN.bM,.int x.cN.fV,.sl x.gD.aO]
def eB.dec (r:List L):eB:=⟨⟨⟨(eR 0 r),(eR 1 r)⟩,(dH 2 r),⟨(qX 3 r),(dH 4 r),(dH 5 r),(eR 6 r)⟩,(eR 7 r),(dH 8 r)⟩,⟨(eR 9 r)⟩⟩
instance :RT eB:=⟨eB.enc,eB.dec,10,fun _ _=>rfl,fun _ _=>rfl⟩
def eB.at (xs:aB)(i:Nat):eB:=eB.dec (List.getD xs i [])
def cK.r (x:cK):eB:=⟨(bH.r x.cN),(aJ.r x.gD)⟩
def cK.row (x:cK):List L:=eB.enc x.r
def cK.zero:cK:=⟨bH.zero,aJ.zero⟩
def cK.dJ {a b:cK}(h:a.r=b.r):a=b:=by
 cases a;cases b
 simp only [cK.r,eB.mk.injEq] at h
 obtain ⟨h0,h1⟩:=h
 simp only [cK.mk.injEq]
 exact ⟨(bH.dJ h0),(aJ.dJ h1)⟩
def cK.dD {a b:cK}(h:cK.row a=cK.row b):a=b:=cK.dJ (congrArg eB.dec h)
def cK.dR {xs:List cK}{i:Nat}:eB.at (xs.map cK.row) i=(xs.getD i cK.zero).r:=fG (r:=fun x=>cK.r x) (fun _=>rfl) rfl
def cK.Am (x:cK):(cK.r x).cN=(bH.r x.cN):=Eq.trans rfl rfl
def cK.zQ (x:cK):(cK.r x).gD=(aJ.r x.gD):=Eq.trans rfl rfl
instance :Row cK:=⟨cK.row,cK.dD⟩
instance :Im cK eB:=⟨cK.r,cK.dJ⟩
def cK.rs:(∀(xs:List cK) (i:Nat),eB.at (xs.map cK.row) i=(xs.getD i cK.zero).r)/\(∀x:cK,(cK.r x).cN=(bH.r x.cN))/\(∀x:cK,(cK.r x).gD=(aJ.r x.gD)):=⟨fun _ _=>cK.dR,cK.Am,cK.zQ⟩
def cK.size (x:cK):Nat:=bH.size x.cN+aJ.size x.gD
structure gR where
 fName:aE
 bz:Int
def gR.enc (x:gR):List L:=[.str x.fName,.int x.bz]
def gR.dec (r:List L):gR:=⟨(qX 0 r),(dH 1 r)⟩
instance :RT gR:=⟨gR.enc,gR.dec,2,fun _ _=>rfl,fun _ _=>rfl⟩
def gR.at (xs:aB)(i:Nat):gR:=gR.dec (List.getD xs i [])
def gR.row (x:gR):List L:=gR.enc x
def gR.zero:gR:=⟨⟨#[]⟩,0⟩
def gR.dD {a b:gR}(h:gR.row a=gR.row b):a=b:=congrArg gR.dec h
def gR.dR {xs:List gR}{i:Nat}:gR.at (xs.map gR.row) i=xs.getD i gR.zero:=fG (r:=fun x=>x) (fun _=>rfl) rfl
instance :Row gR:=⟨gR.row,gR.dD⟩
instance :Im gR gR:=⟨fun x=>x,fun h=>h⟩
def gR.rs:(∀(xs:List gR) (i:Nat),gR.at (xs.map gR.row) i=xs.getD i gR.zero):=fun _ _=>gR.dR
structure eE where
 aQ:aB
 bR:aB
structure aP where
 aQ:List aa
 bR:List ah
def eE.enc (x:eE):List L:=[.sl x.aQ,.sl x.bR]
def eE.dec (r:List L):eE:=⟨(eR 0 r),(eR 1 r)⟩
instance :RT eE:=⟨eE.enc,eE.dec,2,fun _ _=>rfl,fun _ _=>rfl⟩
def eE.at (xs:aB)(i:Nat):eE:=eE.dec (List.getD xs i [])
def aP.r (x:aP):eE:=⟨(x.aQ.map aa.row),(x.bR.map ah.row)⟩
def aP.row (x:aP):List L:=eE.enc x.r
def aP.zero:aP:=⟨[],[]⟩
def aP.dJ {a b:aP}(h:a.r=b.r):a=b:=by
 cases a;cases b
 simp only [aP.r,eE.mk.injEq] at h
 obtain ⟨h0,h1⟩:=h
 simp only [aP.mk.injEq]
 exact ⟨(map_inj aa.dD h0),(map_inj ah.dD h1)⟩
def aP.dD {a b:aP}(h:aP.row a=aP.row b):a=b:=aP.dJ (congrArg eE.dec h)
def aP.eT {xs:List aP}{i:Nat}(h:i<xs.length):eE.at (xs.map aP.row) i=(xs[i]).r:=by unfold eE.at;rw [getD_map h];rfl
def aP.dR {xs:List aP}{i:Nat}:eE.at (xs.map aP.row) i=(xs.getD i aP.zero).r:=fG (r:=fun x=>aP.r x) (fun _=>rfl) rfl
def aP.sE (x:aP):(aP.r x).aQ=(x.aQ.map aa.row):=Eq.trans rfl rfl
def aP.xJ (x:aP):(aP.r x).bR=(x.bR.map ah.row):=Eq.trans rfl rfl
instance :Row aP:=⟨aP.row,aP.dD⟩
instance :Im aP eE:=⟨aP.r,aP.dJ⟩
def aP.rs:(∀(xs:List aP) (i:Nat),eE.at (xs.map aP.row) i=(xs.getD i aP.zero).r)/\(∀x:aP,(aP.r x).aQ=(x.aQ.map aa.row))/\(∀x:aP,(aP.r x).bR=(x.bR.map ah.row)):=⟨fun _ _=>aP.dR,aP.sE,aP.xJ⟩
def aP.Sm (n:Nat)(x:aP):Prop:=bN n (fun y:aa=>aa.Sm n y) x.aQ/\bN n (fun y:ah=>ah.Sm n y) x.bR
def aP.size (x:aP):Nat:=eC (fun y:aa=>aa.size y) x.aQ+eC (fun y:ah=>ah.size y) x.bR
def aP.cF {n m:Nat}(hn:n<=m){x:aP}(h:aP.Sm n x):aP.Sm m x:=⟨h.1.mono hn (fun x hx=>aa.cF hn hx),h.2.mono hn (fun x hx=>ah.cF hn hx)⟩
def aP.eZ {n:Nat}{x:aP}(h:x.size<=n):aP.Sm n x:=by
 unfold aP.size at h
 have g0:eC (fun y:aa=>aa.size y) x.aQ<=n:=by omega
 have g1:eC (fun y:ah=>ah.size y) x.bR<=n:=by omega
 exact ⟨iX g0 (fun x hx=>aa.eZ hx),iX g1 (fun x hx=>ah.eZ hx)⟩
structure cZ where
 bM:aB
 iG:Int
structure ay where
 bM:List aP
 iG:Int
def cZ.enc (x:cZ):List L:=[.sl x.bM,.int x.iG]
def cZ.dec (r:List L):cZ:=⟨(eR 0 r),(dH 1 r)⟩
instance :RT cZ:=⟨cZ.enc,cZ.dec,2,fun _ _=>rfl,fun _ _=>rfl⟩
def cZ.at (xs:aB)(i:Nat):cZ:=cZ.dec (List.getD xs i [])
def ay.r (x:ay):cZ:=⟨(x.bM.map aP.row),x.iG⟩
def ay.row (x:ay):List L:=cZ.enc x.r
def ay.zero:ay:=⟨[],0⟩
def ay.dJ {a b:ay}(h:a.r=b.r):a=b:=by
 cases a;cases b
 simp only [ay.r,cZ.mk.injEq] at h
 obtain ⟨h0,h1⟩:=h
 simp only [ay.mk.injEq]
 exact ⟨(map_inj aP.dD h0),h1⟩
def ay.dD {a b:ay}(h:ay.row a=ay.row b):a=b:=ay.dJ (congrArg cZ.dec h)
def ay.eT {xs:List ay}{i:Nat}(h:i<xs.length):cZ.at (xs.map ay.row) i=(xs[i]).r:=by unfold cZ.at;rw [getD_map h];rfl
def ay.dR {xs:List ay}{i:Nat}:cZ.at (xs.map ay.row) i=(xs.getD i ay.zero).r:=fG (r:=fun x=>ay.r x) (fun _=>rfl) rfl
def ay.sP (x:ay):(ay.r x).bM=(x.bM.map aP.row):=Eq.trans rfl rfl
def ay.BS (x:ay):(ay.r x).iG=x.iG:=Eq.trans rfl rfl
instance :Row ay:=⟨ay.row,ay.dD⟩
instance :Im ay cZ:=⟨ay.r,ay.dJ⟩
def ay.rs:(∀(xs:List ay) (i:Nat),cZ.at (xs.map ay.row) i=(xs.getD i ay.zero).r)/\(∀x:ay,(ay.r x).bM=(x.bM.map aP.row))/\(∀x:ay,(ay.r x).iG=x.iG):=⟨fun _ _=>ay.dR,ay.sP,ay.BS⟩
def ay.Sm (n:Nat)(x:ay):Prop:=bN n (fun y:aP=>aP.Sm n y) x.bM
def ay.size (x:ay):Nat:=eC (fun y:aP=>aP.size y) x.bM
def ay.cF {n m:Nat}(hn:n<=m){x:ay}(h:ay.Sm n x):ay.Sm m x:=h.mono hn (fun x hx=>aP.cF hn hx)
def ay.eZ {n:Nat}{x:ay}(h:x.size<=n):ay.Sm n x:=by
 unfold ay.size at h
 have g0:eC (fun y:aP=>aP.size y) x.bM<=n:=by omega
 exact iX g0 (fun x hx=>aP.eZ hx)
structure dL where
 cg:bA
 cj:Bool
 aS:bK
 ia:Bool
 fR:aB
structure cy where
 cg:aA
 cj:Bool
 aS:ah
 ia:Bool
 fR:List Int
def dL.enc (x:dL):List L:=[.sl x.cg.aM,.sl x.cg.bu,.bool x.cj,.str x.aS.aV,.int x.aS.bJ,.int x.aS.bX,.sl x.aS.bh,.bool x.ia,.sl x.fR]
def dL.dec (r:List L):dL:=⟨⟨(eR 0 r),(eR 1 r)⟩,(AW 2 r),⟨(qX 3 r),(dH 4 r),(dH 5 r),(eR 6 r)⟩,(AW 7 r),(eR 8 r)⟩
instance :RT dL:=⟨dL.enc,dL.dec,9,fun _ _=>rfl,fun _ _=>rfl⟩
def dL.at (xs:aB)(i:Nat):dL:=dL.dec (List.getD xs i [])
def cy.r (x:cy):dL:=⟨(aA.r x.cg),x.cj,(ah.r x.aS),x.ia,(x.fR.map bt)⟩
def cy.row (x:cy):List L:=dL.enc x.r
def cy.zero:cy:=⟨aA.zero,false,ah.zero,false,[]⟩
def cy.dJ {a b:cy}(h:a.r=b.r):a=b:=by
 cases a;cases b
 simp only [cy.r,dL.mk.injEq] at h
 obtain ⟨h0,h1,h2,h3,h4⟩:=h
 simp only [cy.mk.injEq]
 exact ⟨(aA.dJ h0),h1,(ah.dJ h2),h3,(map_inj mK h4)⟩
def cy.dD {a b:cy}(h:cy.row a=cy.row b):a=b:=cy.dJ (congrArg dL.dec h)
def cy.dR {xs:List cy}{i:Nat}:dL.at (xs.map cy.row) i=(xs.getD i cy.zero).r:=fG (r:=fun x=>cy.r x) (fun _=>rfl) rfl
def cy.rJ (x:cy):(cy.r x).cg=(aA.r x.cg):=Eq.trans rfl rfl
def cy.sy (x:cy):(cy.r x).cj=x.cj:=Eq.trans rfl rfl
def cy.mI (x:cy):(cy.r x).aS=(ah.r x.aS):=Eq.trans rfl rfl
def cy.A7 (x:cy):(cy.r x).ia=x.ia:=Eq.trans rfl rfl
def cy.zI (x:cy):(cy.r x).fR=(x.fR.map bt):=Eq.trans rfl rfl
instance :Row cy:=⟨cy.row,cy.dD⟩
instance :Im cy dL:=⟨cy.r,cy.dJ⟩
def cy.rs:(∀(xs:List cy) (i:Nat),dL.at (xs.map cy.row) i=(xs.getD i cy.zero).r)/\(∀x:cy,(cy.r x).cg=(aA.r x.cg))/\(∀x:cy,(cy.r x).cj=x.cj)/\(∀x:cy,(cy.r x).aS=(ah.r x.aS))/\(∀x:cy,(cy.r x).ia=x.ia)/\(∀x:cy,(cy.r x).fR=(x.fR.map bt)):=⟨fun _ _=>cy.dR,cy.rJ,cy.sy,cy.mI,cy.A7,cy.zI⟩
def cy.Sm (n:Nat)(x:cy):Prop:=aA.Sm n x.cg/\ah.Sm n x.aS/\bN n (fun y:Int=>True) x.fR
def SS:=And.intro (And.intro S0 MM) (And.intro aR.rs (And.intro aF.rs (And.intro bn.rs (And.intro aa.rs (And.intro aG.rs (And.intro aA.rs (And.intro ah.rs (And.intro aL.rs (And.intro bL.rs (And.intro aq.rs (And.intro av.rs (And.intro aJ.rs (And.intro bH.rs (And.intro cK.rs (And.intro gR.rs (And.intro aP.rs (And.intro ay.rs (And.intro cy.rs trivial))))))))))))))))))
def fz {p:Prop}(h:p:=by first | rfl | (simp only [SS];done) | (simp only [MP];rfl) | (simp only [SS,MP];first | done | rfl) | (simp only [aR.r,aF.r,aa.r,aG.r,aA.r,ah.r,aL.r,bL.r,aq.r,av.r,aJ.r,bH.r,cK.r,aP.r,ay.r,cy.r,SS,MP];first | done | rfl) | (simp only [SS,MP,List.length_take,List.length_drop];first | done | rfl)):p:=h
def rq {p q:Prop}(h:p)(k:p->q:=by intro R_;first | exact R_ | (simp only [MP,SS] at R_ ⊢;first | exact R_ | (rw [<-R_];rfl))):q:=k h
end Go.DM

end
