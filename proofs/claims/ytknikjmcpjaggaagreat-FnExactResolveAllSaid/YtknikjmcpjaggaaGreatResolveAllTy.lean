/- The structures of the program, as mathematical records. Conditions: none. -/
import Derived.Test.YtknikjmcpjaggaaGreatResolveAllDd
set_option linter.all false
noncomputable section
namespace Go.DM
structure bF where
 aX:aD
 cH:Int
structure aO where
 aX:List Int
 cH:Int
def bF.enc (x:bF):List L:=[.sl x.aX,.int x.cH]
def bF.dec (r:List L):bF:=⟨((aA 0 r).headD .hole).aQ,((aA 1 r).headD .hole).toInt⟩
instance :RT bF:=⟨bF.enc,bF.dec,2,fun _ _=>rfl,fun _ _=>rfl⟩
def bF.at (xs:aD)(i:Nat):bF:=bF.dec (List.getD xs i [])
def aO.r (x:aO):bF:=⟨(x.aX.map bu),x.cH⟩
def aO.row (x:aO):List L:=bF.enc x.r
def aO.zero:aO:=⟨[],0⟩
def aO.cP {a b:aO}(h:a.r=b.r):a=b:=by
 cases a;cases b
 simp only [aO.r,bF.mk.injEq] at h
 obtain ⟨h0,h1⟩:=h
 simp only [aO.mk.injEq]
 exact ⟨(map_inj kY h0),h1⟩
def aO.cL {a b:aO}(h:aO.row a=aO.row b):a=b:=aO.cP (congrArg bF.dec h)
def aO.cY {xs:List aO}{i:Nat}:bF.at (xs.map aO.row) i=(xs.getD i aO.zero).r:=eu (r:=fun x=>aO.r x) (fun _=>rfl) rfl
def aO.tK (x:aO):(aO.r x).aX=(x.aX.map bu):=Eq.trans rfl rfl
def aO.zR (x:aO):(aO.r x).cH=x.cH:=Eq.trans rfl rfl
instance :Row aO:=⟨aO.row,aO.cL⟩
instance :Im aO bF:=⟨aO.r,aO.cP⟩
def aO.rs:(∀(xs:List aO) (i:Nat),bF.at (xs.map aO.row) i=(xs.getD i aO.zero).r)/\(∀x:aO,(aO.r x).aX=(x.aX.map bu))/\(∀x:aO,(aO.r x).cH=x.cH):=⟨fun _ _=>aO.cY,aO.tK,aO.zR⟩
def aO.Sm (n:Nat)(x:aO):Prop:=bO n (fun y:Int=>True) x.aX
def aO.size (x:aO):Nat:=dP (fun y:Int=>0) x.aX
def aO.cU {n m:Nat}(hn:n<=m){x:aO}(h:aO.Sm n x):aO.Sm m x:=h.mono hn (fun x hx=>trivial)
def aO.gj {n:Nat}{x:aO}(h:x.size<=n):aO.Sm n x:=by
 unfold aO.size at h
 have g0:dP (fun y:Int=>0) x.aX<=n:=by omega
 exact ji g0 (fun x hx=>trivial)
structure ck where
 bz:Int
 cN:Int
 bM:Int
 cK:Int
 cF:Int
 cz:Int
 dm:Int
 dH:Int
 bQ:bF
 bE:bF
 dw:Int
 bC:bF
 bG:Bool
structure aG where
 bz:Int
 cN:Int
 bM:Int
 cK:Int
 cF:Int
 cz:Int
 dm:Int
 dH:Int
 bQ:aO
 bE:aO
 dw:Int
 bC:aO
 bG:Bool
def ck.enc (x:ck):List L:=[.int x.bz,.int x.cN,.int x.bM,.int x.cK,.int x.cF,.int x.cz,.int x.dm,.int x.dH,.sl x.bQ.aX,.int x.bQ.cH,.sl x.bE.aX,.int x.bE.cH,.int x.dw,.sl x.bC.aX,.int x.bC.cH,.bool x.bG]
def ck.dec (r:List L):ck:=⟨((aA 0 r).headD .hole).toInt,((aA 1 r).headD .hole).toInt,((aA 2 r).headD .hole).toInt,((aA 3 r).headD .hole).toInt,((aA 4 r).headD .hole).toInt,((aA 5 r).headD .hole).toInt,((aA 6 r).headD .hole).toInt,((aA 7 r).headD .hole).toInt,⟨((aA 8 r).headD .hole).aQ,((aA 9 r).headD .hole).toInt⟩,⟨((aA 10 r).headD .hole).aQ,((aA 11 r).headD .hole).toInt⟩,((aA 12 r).headD .hole).toInt,⟨((aA 13 r).headD .hole).aQ,((aA 14 r).headD .hole).toInt⟩,((aA 15 r).headD .hole).toBool⟩
instance :RT ck:=⟨ck.enc,ck.dec,16,fun _ _=>rfl,fun _ _=>rfl⟩
def ck.at (xs:aD)(i:Nat):ck:=ck.dec (List.getD xs i [])
def aG.r (x:aG):ck:=⟨x.bz,x.cN,x.bM,x.cK,x.cF,x.cz,x.dm,x.dH,(aO.r x.bQ),(aO.r x.bE),x.dw,(aO.r x.bC),x.bG⟩
def aG.row (x:aG):List L:=ck.enc x.r
def aG.zero:aG:=⟨0,0,0,0,0,0,0,0,aO.zero,aO.zero,0,aO.zero,false⟩
def aG.cP {a b:aG}(h:a.r=b.r):a=b:=by
 cases a;cases b
 simp only [aG.r,ck.mk.injEq] at h
 obtain ⟨h0,h1,h2,h3,h4,h5,h6,h7,h8,h9,h10,h11,h12⟩:=h
 simp only [aG.mk.injEq]
 exact ⟨h0,h1,h2,h3,h4,h5,h6,h7,(aO.cP h8),(aO.cP h9),h10,(aO.cP h11),h12⟩
def aG.cL {a b:aG}(h:aG.row a=aG.row b):a=b:=aG.cP (congrArg ck.dec h)
def aG.cY {xs:List aG}{i:Nat}:ck.at (xs.map aG.row) i=(xs.getD i aG.zero).r:=eu (r:=fun x=>aG.r x) (fun _=>rfl) rfl
def aG.sR (x:aG):(aG.r x).bz=x.bz:=Eq.trans rfl rfl
def aG.yz (x:aG):(aG.r x).cN=x.cN:=Eq.trans rfl rfl
def aG.ow (x:aG):(aG.r x).bM=x.bM:=Eq.trans rfl rfl
def aG.zj (x:aG):(aG.r x).cK=x.cK:=Eq.trans rfl rfl
def aG.ym (x:aG):(aG.r x).cF=x.cF:=Eq.trans rfl rfl
def aG.zd (x:aG):(aG.r x).cz=x.cz:=Eq.trans rfl rfl
def aG.zC (x:aG):(aG.r x).dm=x.dm:=Eq.trans rfl rfl
def aG.zE (x:aG):(aG.r x).dH=x.dH:=Eq.trans rfl rfl
def aG.th (x:aG):(aG.r x).bQ=(aO.r x.bQ):=Eq.trans rfl rfl
def aG.yu (x:aG):(aG.r x).bE=(aO.r x.bE):=Eq.trans rfl rfl
def aG.zW (x:aG):(aG.r x).dw=x.dw:=Eq.trans rfl rfl
def aG.yN (x:aG):(aG.r x).bC=(aO.r x.bC):=Eq.trans rfl rfl
def aG.wY (x:aG):(aG.r x).bG=x.bG:=Eq.trans rfl rfl
instance :Row aG:=⟨aG.row,aG.cL⟩
instance :Im aG ck:=⟨aG.r,aG.cP⟩
def aG.rs:(∀(xs:List aG) (i:Nat),ck.at (xs.map aG.row) i=(xs.getD i aG.zero).r)/\(∀x:aG,(aG.r x).bz=x.bz)/\(∀x:aG,(aG.r x).cN=x.cN)/\(∀x:aG,(aG.r x).bM=x.bM)/\(∀x:aG,(aG.r x).cK=x.cK)/\(∀x:aG,(aG.r x).cF=x.cF)/\(∀x:aG,(aG.r x).cz=x.cz)/\(∀x:aG,(aG.r x).dm=x.dm)/\(∀x:aG,(aG.r x).dH=x.dH)/\(∀x:aG,(aG.r x).bQ=(aO.r x.bQ))/\(∀x:aG,(aG.r x).bE=(aO.r x.bE))/\(∀x:aG,(aG.r x).dw=x.dw)/\(∀x:aG,(aG.r x).bC=(aO.r x.bC))/\(∀x:aG,(aG.r x).bG=x.bG):=⟨fun _ _=>aG.cY,aG.sR,aG.yz,aG.ow,aG.zj,aG.ym,aG.zd,aG.zC,aG.zE,aG.th,aG.yu,aG.zW,aG.yN,aG.wY⟩
def aG.Sm (n:Nat)(x:aG):Prop:=aO.Sm n x.bQ/\aO.Sm n x.bE/\aO.Sm n x.bC
def aG.size (x:aG):Nat:=aO.size x.bQ+aO.size x.bE+aO.size x.bC
def aG.cU {n m:Nat}(hn:n<=m){x:aG}(h:aG.Sm n x):aG.Sm m x:=⟨aO.cU hn h.1,aO.cU hn h.2.1,aO.cU hn h.2.2⟩
def aG.gj {n:Nat}{x:aG}(h:x.size<=n):aG.Sm n x:=by
 unfold aG.size at h
 have g0:aO.size x.bQ<=n:=by omega
 have g1:aO.size x.bE<=n:=by omega
 have g2:aO.size x.bC<=n:=by omega
 exact ⟨aO.gj g0,aO.gj g1,aO.gj g2⟩
structure bw where
 gW:Int
 jD:Int
def bw.enc (x:bw):List L:=[.int x.gW,.int x.jD]
def bw.dec (r:List L):bw:=⟨((aA 0 r).headD .hole).toInt,((aA 1 r).headD .hole).toInt⟩
instance :RT bw:=⟨bw.enc,bw.dec,2,fun _ _=>rfl,fun _ _=>rfl⟩
def bw.at (xs:aD)(i:Nat):bw:=bw.dec (List.getD xs i [])
def bw.row (x:bw):List L:=bw.enc x
def bw.zero:bw:=⟨0,0⟩
def bw.cL {a b:bw}(h:bw.row a=bw.row b):a=b:=congrArg bw.dec h
def bw.ec {xs:List bw}{i:Nat}(h:i<xs.length):bw.at (xs.map bw.row) i=xs[i]:=by unfold bw.at;rw [getD_map h];rfl
def bw.cY {xs:List bw}{i:Nat}:bw.at (xs.map bw.row) i=xs.getD i bw.zero:=eu (r:=fun x=>x) (fun _=>rfl) rfl
def bw.eqc (a b:bw):(eo a.gW b.gW&&(eo a.jD b.jD&&true))=eo a b:=by
 cases a;cases b
 rw [Bool.eq_iff_iff]
 simp only [dA,Bool.and_eq_true,bw.mk.injEq,and_true]
instance :Row bw:=⟨bw.row,bw.cL⟩
instance :Im bw bw:=⟨fun x=>x,fun h=>h⟩
def bw.rs:(∀(xs:List bw) (i:Nat),bw.at (xs.map bw.row) i=xs.getD i bw.zero):=fun _ _=>bw.cY
def bw.Sm (n:Nat)(x:bw):Prop:=True
def bw.size (x:bw):Nat:=0
def bw.cU {n m:Nat}(_:n<=m){x:bw}(_:bw.Sm n x):bw.Sm m x:=trivial
def bw.gj {n:Nat}{x:bw}(_:x.size<=n):bw.Sm n x:=trivial
structure aT where
 au:ck
 cw:aD
structure aa where
 au:aG
 cw:List bw
def aT.enc (x:aT):List L:=[.int x.au.bz,.int x.au.cN,.int x.au.bM,.int x.au.cK,.int x.au.cF,.int x.au.cz,.int x.au.dm,.int x.au.dH,.sl x.au.bQ.aX,.int x.au.bQ.cH,.sl x.au.bE.aX,.int x.au.bE.cH,.int x.au.dw,.sl x.au.bC.aX,.int x.au.bC.cH,.bool x.au.bG,.sl x.cw]
def aT.dec (r:List L):aT:=⟨⟨((aA 0 r).headD .hole).toInt,((aA 1 r).headD .hole).toInt,((aA 2 r).headD .hole).toInt,((aA 3 r).headD .hole).toInt,((aA 4 r).headD .hole).toInt,((aA 5 r).headD .hole).toInt,((aA 6 r).headD .hole).toInt,((aA 7 r).headD .hole).toInt,⟨((aA 8 r).headD .hole).aQ,((aA 9 r).headD .hole).toInt⟩,⟨((aA 10 r).headD .hole).aQ,((aA 11 r).headD .hole).toInt⟩,((aA 12 r).headD .hole).toInt,⟨((aA 13 r).headD .hole).aQ,((aA 14 r).headD .hole).toInt⟩,((aA 15 r).headD .hole).toBool⟩,((aA 16 r).headD .hole).aQ⟩
instance :RT aT:=⟨aT.enc,aT.dec,17,fun _ _=>rfl,fun _ _=>rfl⟩
def aT.at (xs:aD)(i:Nat):aT:=aT.dec (List.getD xs i [])
def aa.r (x:aa):aT:=⟨(aG.r x.au),(x.cw.map bw.row)⟩
def aa.row (x:aa):List L:=aT.enc x.r
def aa.zero:aa:=⟨aG.zero,[]⟩
def aa.cP {a b:aa}(h:a.r=b.r):a=b:=by
 cases a;cases b
 simp only [aa.r,aT.mk.injEq] at h
 obtain ⟨h0,h1⟩:=h
 simp only [aa.mk.injEq]
 exact ⟨(aG.cP h0),(map_inj bw.cL h1)⟩
def aa.cL {a b:aa}(h:aa.row a=aa.row b):a=b:=aa.cP (congrArg aT.dec h)
def aa.ec {xs:List aa}{i:Nat}(h:i<xs.length):aT.at (xs.map aa.row) i=(xs[i]).r:=by unfold aT.at;rw [getD_map h];rfl
def aa.cY {xs:List aa}{i:Nat}:aT.at (xs.map aa.row) i=(xs.getD i aa.zero).r:=eu (r:=fun x=>aa.r x) (fun _=>rfl) rfl
def aa.zB (x:aa):(aa.r x).au=(aG.r x.au):=Eq.trans rfl rfl
def aa.zD (x:aa):(aa.r x).cw=(x.cw.map bw.row):=Eq.trans rfl rfl
instance :Row aa:=⟨aa.row,aa.cL⟩
instance :Im aa aT:=⟨aa.r,aa.cP⟩
def aa.rs:(∀(xs:List aa) (i:Nat),aT.at (xs.map aa.row) i=(xs.getD i aa.zero).r)/\(∀x:aa,(aa.r x).au=(aG.r x.au))/\(∀x:aa,(aa.r x).cw=(x.cw.map bw.row)):=⟨fun _ _=>aa.cY,aa.zB,aa.zD⟩
def aa.Sm (n:Nat)(x:aa):Prop:=aG.Sm n x.au/\bO n (fun y:bw=>bw.Sm n y) x.cw
def aa.size (x:aa):Nat:=aG.size x.au+dP (fun y:bw=>bw.size y) x.cw
def aa.cU {n m:Nat}(hn:n<=m){x:aa}(h:aa.Sm n x):aa.Sm m x:=⟨aG.cU hn h.1,h.2.mono hn (fun x hx=>bw.cU hn hx)⟩
def aa.gj {n:Nat}{x:aa}(h:x.size<=n):aa.Sm n x:=by
 unfold aa.size at h
 have g0:aG.size x.au<=n:=by omega
 have g1:dP (fun y:bw=>bw.size y) x.cw<=n:=by omega
 exact ⟨aG.gj g0,ji g1 (fun x hx=>bw.gj hx)⟩
structure bL where
 aS:aT
 fA:aT
 fB:aT
structure aB where
 aS:aa
 fA:aa
 fB:aa
def bL.enc (x:bL):List L:=[.int x.aS.au.bz,.int x.aS.au.cN,.int x.aS.au.bM,.int x.aS.au.cK,.int x.aS.au.cF,.int x.aS.au.cz,.int x.aS.au.dm,.int x.aS.au.dH,.sl x.aS.au.bQ.aX,.int x.aS.au.bQ.cH,.sl x.aS.au.bE.aX,.int x.aS.au.bE.cH,.int x.aS.au.dw,.sl x.aS.au.bC.aX,.int x.aS.au.bC.cH,.bool x.aS.au.bG,.sl x.aS.cw,.int x.fA.au.bz,.int x.fA.au.cN,.int x.fA.au.bM,.int x.fA.au.cK,.int x.fA.au.cF,.int x.fA.au.cz,.int x.fA.au.dm,.int x.fA.au.dH,.sl x.fA.au.bQ.aX,.int x.fA.au.bQ.cH,.sl x.fA.au.bE.aX,.int x.fA.au.bE.cH,.int x.fA.au.dw,.sl x.fA.au.bC.aX,.int x.fA.au.bC.cH,.bool x.fA.au.bG,.sl x.fA.cw,.int x.fB.au.bz,.int x.fB.au.cN,.int x.fB.au.bM,.int x.fB.au.cK,.int x.fB.au.cF,.int x.fB.au.cz,.int x.fB.au.dm,.int x.fB.au.dH,.sl x.fB.au.bQ.aX,.int x.fB.au.bQ.cH,.sl x.fB.au.bE.aX,.int x.fB.au.bE.cH,.int x.fB.au.dw,.sl x.fB.au.bC.aX,.int x.fB.au.bC.cH,.bool x.fB.au.bG,.sl x.fB.cw]
def bL.dec (r:List L):bL:=⟨⟨⟨((aA 0 r).headD .hole).toInt,((aA 1 r).headD .hole).toInt,((aA 2 r).headD .hole).toInt,((aA 3 r).headD .hole).toInt,((aA 4 r).headD .hole).toInt,((aA 5 r).headD .hole).toInt,((aA 6 r).headD .hole).toInt,((aA 7 r).headD .hole).toInt,⟨((aA 8 r).headD .hole).aQ,((aA 9 r).headD .hole).toInt⟩,⟨((aA 10 r).headD .hole).aQ,((aA 11 r).headD .hole).toInt⟩,((aA 12 r).headD .hole).toInt,⟨((aA 13 r).headD .hole).aQ,((aA 14 r).headD .hole).toInt⟩,((aA 15 r).headD .hole).toBool⟩,((aA 16 r).headD .hole).aQ⟩,⟨⟨((aA 17 r).headD .hole).toInt,((aA 18 r).headD .hole).toInt,((aA 19 r).headD .hole).toInt,((aA 20 r).headD .hole).toInt,((aA 21 r).headD .hole).toInt,((aA 22 r).headD .hole).toInt,((aA 23 r).headD .hole).toInt,((aA 24 r).headD .hole).toInt,⟨((aA 25 r).headD .hole).aQ,((aA 26 r).headD .hole).toInt⟩,⟨((aA 27 r).headD .hole).aQ,((aA 28 r).headD .hole).toInt⟩,((aA 29 r).headD .hole).toInt,⟨((aA 30 r).headD .hole).aQ,((aA 31 r).headD .hole).toInt⟩,((aA 32 r).headD .hole).toBool⟩,((aA 33 r).headD .hole).aQ⟩,⟨⟨((aA 34 r).headD .hole).toInt,((aA 35 r).headD .hole).toInt,((aA 36 r).headD .hole).toInt,((aA 37 r).headD .hole).toInt,((aA 38 r).headD .hole).toInt,((aA 39 r).headD .hole).toInt,((aA 40 r).headD .hole).toInt,((aA 41 r).headD .hole).toInt,⟨((aA 42 r).headD .hole).aQ,((aA 43 r).headD .hole).toInt⟩,⟨((aA 44 r).headD .hole).aQ,((aA 45 r).headD .hole).toInt⟩,((aA 46 r).headD .hole).toInt,⟨((aA 47 r).headD .hole).aQ,((aA 48 r).headD .hole).toInt⟩,((aA 49 r).headD .hole).toBool⟩,((aA 50 r).headD .hole).aQ⟩⟩
instance :RT bL:=⟨bL.enc,bL.dec,51,fun _ _=>rfl,fun _ _=>rfl⟩
def bL.at (xs:aD)(i:Nat):bL:=bL.dec (List.getD xs i [])
def aB.r (x:aB):bL:=⟨(aa.r x.aS),(aa.r x.fA),(aa.r x.fB)⟩
def aB.row (x:aB):List L:=bL.enc x.r
def aB.zero:aB:=⟨aa.zero,aa.zero,aa.zero⟩
def aB.cP {a b:aB}(h:a.r=b.r):a=b:=by
 cases a;cases b
 simp only [aB.r,bL.mk.injEq] at h
 obtain ⟨h0,h1,h2⟩:=h
 simp only [aB.mk.injEq]
 exact ⟨(aa.cP h0),(aa.cP h1),(aa.cP h2)⟩
def aB.cL {a b:aB}(h:aB.row a=aB.row b):a=b:=aB.cP (congrArg bL.dec h)
def aB.ec {xs:List aB}{i:Nat}(h:i<xs.length):bL.at (xs.map aB.row) i=(xs[i]).r:=by unfold bL.at;rw [getD_map h];rfl
def aB.cY {xs:List aB}{i:Nat}:bL.at (xs.map aB.row) i=(xs.getD i aB.zero).r:=eu (r:=fun x=>aB.r x) (fun _=>rfl) rfl
def aB.oW (x:aB):(aB.r x).aS=(aa.r x.aS):=Eq.trans rfl rfl
def aB.BQ (x:aB):(aB.r x).fA=(aa.r x.fA):=Eq.trans rfl rfl
def aB.BM (x:aB):(aB.r x).fB=(aa.r x.fB):=Eq.trans rfl rfl
instance :Row aB:=⟨aB.row,aB.cL⟩
instance :Im aB bL:=⟨aB.r,aB.cP⟩
def aB.rs:(∀(xs:List aB) (i:Nat),bL.at (xs.map aB.row) i=(xs.getD i aB.zero).r)/\(∀x:aB,(aB.r x).aS=(aa.r x.aS))/\(∀x:aB,(aB.r x).fA=(aa.r x.fA))/\(∀x:aB,(aB.r x).fB=(aa.r x.fB)):=⟨fun _ _=>aB.cY,aB.oW,aB.BQ,aB.BM⟩
def aB.Sm (n:Nat)(x:aB):Prop:=aa.Sm n x.aS/\aa.Sm n x.fA/\aa.Sm n x.fB
def aB.size (x:aB):Nat:=aa.size x.aS+aa.size x.fA+aa.size x.fB
def aB.cU {n m:Nat}(hn:n<=m){x:aB}(h:aB.Sm n x):aB.Sm m x:=⟨aa.cU hn h.1,aa.cU hn h.2.1,aa.cU hn h.2.2⟩
def aB.gj {n:Nat}{x:aB}(h:x.size<=n):aB.Sm n x:=by
 unfold aB.size at h
 have g0:aa.size x.aS<=n:=by omega
 have g1:aa.size x.fA<=n:=by omega
 have g2:aa.size x.fB<=n:=by omega
 exact ⟨aa.gj g0,aa.gj g1,aa.gj g2⟩
structure bt where
 aH:aD
 aY:aD
structure aj where
 aH:List (List aa)
 aY:List aB
def bt.enc (x:bt):List L:=[.sl x.aH,.sl x.aY]
def bt.dec (r:List L):bt:=⟨((aA 0 r).headD .hole).aQ,((aA 1 r).headD .hole).aQ⟩
instance :RT bt:=⟨bt.enc,bt.dec,2,fun _ _=>rfl,fun _ _=>rfl⟩
def bt.at (xs:aD)(i:Nat):bt:=bt.dec (List.getD xs i [])
def aj.r (x:aj):bt:=⟨(x.aH.map (dO aa.row)),(x.aY.map aB.row)⟩
def aj.row (x:aj):List L:=bt.enc x.r
def aj.zero:aj:=⟨[],[]⟩
def aj.cP {a b:aj}(h:a.r=b.r):a=b:=by
 cases a;cases b
 simp only [aj.r,bt.mk.injEq] at h
 obtain ⟨h0,h1⟩:=h
 simp only [aj.mk.injEq]
 exact ⟨(map_inj (uz aa.cL) h0),(map_inj aB.cL h1)⟩
def aj.cL {a b:aj}(h:aj.row a=aj.row b):a=b:=aj.cP (congrArg bt.dec h)
def aj.cY {xs:List aj}{i:Nat}:bt.at (xs.map aj.row) i=(xs.getD i aj.zero).r:=eu (r:=fun x=>aj.r x) (fun _=>rfl) rfl
def aj.wO (x:aj):(aj.r x).aH=(x.aH.map (dO aa.row)):=Eq.trans rfl rfl
def aj.xI (x:aj):(aj.r x).aY=(x.aY.map aB.row):=Eq.trans rfl rfl
instance :Row aj:=⟨aj.row,aj.cL⟩
instance :Im aj bt:=⟨aj.r,aj.cP⟩
def aj.rs:(∀(xs:List aj) (i:Nat),bt.at (xs.map aj.row) i=(xs.getD i aj.zero).r)/\(∀x:aj,(aj.r x).aH=(x.aH.map (dO aa.row)))/\(∀x:aj,(aj.r x).aY=(x.aY.map aB.row)):=⟨fun _ _=>aj.cY,aj.wO,aj.xI⟩
def aj.Sm (n:Nat)(x:aj):Prop:=bO n (fun y:List aa=>bO n (fun y:aa=>aa.Sm n y) y) x.aH/\bO n (fun y:aB=>aB.Sm n y) x.aY
def aj.size (x:aj):Nat:=dP (fun y:List aa=>dP (fun y:aa=>aa.size y) y) x.aH+dP (fun y:aB=>aB.size y) x.aY
def aj.cU {n m:Nat}(hn:n<=m){x:aj}(h:aj.Sm n x):aj.Sm m x:=⟨h.1.mono hn (fun x hx=>hx.mono hn (fun x hx=>aa.cU hn hx)),h.2.mono hn (fun x hx=>aB.cU hn hx)⟩
def aj.gj {n:Nat}{x:aj}(h:x.size<=n):aj.Sm n x:=by
 unfold aj.size at h
 have g0:dP (fun y:List aa=>dP (fun y:aa=>aa.size y) y) x.aH<=n:=by omega
 have g1:dP (fun y:aB=>aB.size y) x.aY<=n:=by omega
 exact ⟨ji g0 (fun x hx=>ji hx (fun x hx=>aa.gj hx)),ji g1 (fun x hx=>aB.gj hx)⟩
structure bf where
 bn:aE
 bM:Int
 cq:Int
 bH:aD
structure ah where
 bn:aE
 bM:Int
 cq:Int
 bH:List aE
def bf.enc (x:bf):List L:=[.str x.bn,.int x.bM,.int x.cq,.sl x.bH]
def bf.dec (r:List L):bf:=⟨((aA 0 r).headD .hole).toStr,((aA 1 r).headD .hole).toInt,((aA 2 r).headD .hole).toInt,((aA 3 r).headD .hole).aQ⟩
instance :RT bf:=⟨bf.enc,bf.dec,4,fun _ _=>rfl,fun _ _=>rfl⟩
def bf.at (xs:aD)(i:Nat):bf:=bf.dec (List.getD xs i [])
def ah.r (x:ah):bf:=⟨x.bn,x.bM,x.cq,(x.bH.map cI)⟩
def ah.row (x:ah):List L:=bf.enc x.r
def ah.zero:ah:=⟨⟨#[]⟩,0,0,[]⟩
def ah.cP {a b:ah}(h:a.r=b.r):a=b:=by
 cases a;cases b
 simp only [ah.r,bf.mk.injEq] at h
 obtain ⟨h0,h1,h2,h3⟩:=h
 simp only [ah.mk.injEq]
 exact ⟨h0,h1,h2,(map_inj qw h3)⟩
def ah.cL {a b:ah}(h:ah.row a=ah.row b):a=b:=ah.cP (congrArg bf.dec h)
def ah.ec {xs:List ah}{i:Nat}(h:i<xs.length):bf.at (xs.map ah.row) i=(xs[i]).r:=by unfold bf.at;rw [getD_map h];rfl
def ah.cY {xs:List ah}{i:Nat}:bf.at (xs.map ah.row) i=(xs.getD i ah.zero).r:=eu (r:=fun x=>ah.r x) (fun _=>rfl) rfl
def ah.qC (x:ah):(ah.r x).bn=x.bn:=Eq.trans rfl rfl
def ah.ow (x:ah):(ah.r x).bM=x.bM:=Eq.trans rfl rfl
def ah.yh (x:ah):(ah.r x).cq=x.cq:=Eq.trans rfl rfl
def ah.nX (x:ah):(ah.r x).bH=(x.bH.map cI):=Eq.trans rfl rfl
instance :Row ah:=⟨ah.row,ah.cL⟩
instance :Im ah bf:=⟨ah.r,ah.cP⟩
def ah.rs:(∀(xs:List ah) (i:Nat),bf.at (xs.map ah.row) i=(xs.getD i ah.zero).r)/\(∀x:ah,(ah.r x).bn=x.bn)/\(∀x:ah,(ah.r x).bM=x.bM)/\(∀x:ah,(ah.r x).cq=x.cq)/\(∀x:ah,(ah.r x).bH=(x.bH.map cI)):=⟨fun _ _=>ah.cY,ah.qC,ah.ow,ah.yh,ah.nX⟩
def ah.Sm (n:Nat)(x:ah):Prop:=(x.bn).size<=n/\bO n (fun y:aE=>(y).size<=n) x.bH
def ah.size (x:ah):Nat:=(x.bn).size+dP (fun y:aE=>(y).size) x.bH
def ah.cU {n m:Nat}(hn:n<=m){x:ah}(h:ah.Sm n x):ah.Sm m x:=⟨Nat.le_trans h.1 hn,h.2.mono hn (fun x hx=>Nat.le_trans hx hn)⟩
def ah.gj {n:Nat}{x:ah}(h:x.size<=n):ah.Sm n x:=by
 unfold ah.size at h
 have g0:(x.bn).size<=n:=by omega
 have g1:dP (fun y:aE=>(y).size) x.bH<=n:=by omega
 exact ⟨g0,ji g1 (fun x hx=>hx)⟩
structure bT where
 eG:Int
 bH:aD
structure aP where
 eG:Int
 bH:List Int
def bT.enc (x:bT):List L:=[.int x.eG,.sl x.bH]
def bT.dec (r:List L):bT:=⟨((aA 0 r).headD .hole).toInt,((aA 1 r).headD .hole).aQ⟩
instance :RT bT:=⟨bT.enc,bT.dec,2,fun _ _=>rfl,fun _ _=>rfl⟩
def bT.at (xs:aD)(i:Nat):bT:=bT.dec (List.getD xs i [])
def aP.r (x:aP):bT:=⟨x.eG,(x.bH.map bu)⟩
def aP.row (x:aP):List L:=bT.enc x.r
def aP.zero:aP:=⟨0,[]⟩
def aP.cP {a b:aP}(h:a.r=b.r):a=b:=by
 cases a;cases b
 simp only [aP.r,bT.mk.injEq] at h
 obtain ⟨h0,h1⟩:=h
 simp only [aP.mk.injEq]
 exact ⟨h0,(map_inj kY h1)⟩
def aP.cL {a b:aP}(h:aP.row a=aP.row b):a=b:=aP.cP (congrArg bT.dec h)
def aP.cY {xs:List aP}{i:Nat}:bT.at (xs.map aP.row) i=(xs.getD i aP.zero).r:=eu (r:=fun x=>aP.r x) (fun _=>rfl) rfl
def aP.yc (x:aP):(aP.r x).eG=x.eG:=Eq.trans rfl rfl
def aP.nX (x:aP):(aP.r x).bH=(x.bH.map bu):=Eq.trans rfl rfl
instance :Row aP:=⟨aP.row,aP.cL⟩
instance :Im aP bT:=⟨aP.r,aP.cP⟩
def aP.rs:(∀(xs:List aP) (i:Nat),bT.at (xs.map aP.row) i=(xs.getD i aP.zero).r)/\(∀x:aP,(aP.r x).eG=x.eG)/\(∀x:aP,(aP.r x).bH=(x.bH.map bu)):=⟨fun _ _=>aP.cY,aP.yc,aP.nX⟩
def aP.Sm (n:Nat)(x:aP):Prop:=bO n (fun y:Int=>True) x.bH
def aP.size (x:aP):Nat:=dP (fun y:Int=>0) x.bH
structure dV where
 eG:Int
 aS:bf
 cJ:bf
 eI:bT
 dh:bT
structure bW where
 eG:Int
 aS:ah
 cJ:ah
 eI:aP
 dh:aP
def dV.enc (x:dV):List L:=[.int x.eG,.str x.aS.bn,.int x.aS.bM,.int x.aS.cq,.sl x.aS.bH,.str x.cJ.bn,.int x.cJ.bM,.int x.cJ.cq,.sl x.cJ.bH,.int x.eI.eG,.sl x.eI.bH,.int x.dh.eG,.sl x.dh.bH]
def dV.dec (r:List L):dV:=⟨((aA 0 r).headD .hole).toInt,⟨((aA 1 r).headD .hole).toStr,((aA 2 r).headD .hole).toInt,((aA 3 r).headD .hole).toInt,((aA 4 r).headD .hole).aQ⟩,⟨((aA 5 r).headD .hole).toStr,((aA 6 r).headD .hole).toInt,((aA 7 r).headD .hole).toInt,((aA 8 r).headD .hole).aQ⟩,⟨((aA 9 r).headD .hole).toInt,((aA 10 r).headD .hole).aQ⟩,⟨((aA 11 r).headD .hole).toInt,((aA 12 r).headD .hole).aQ⟩⟩
instance :RT dV:=⟨dV.enc,dV.dec,13,fun _ _=>rfl,fun _ _=>rfl⟩
def dV.at (xs:aD)(i:Nat):dV:=dV.dec (List.getD xs i [])
def bW.r (x:bW):dV:=⟨x.eG,(ah.r x.aS),(ah.r x.cJ),(aP.r x.eI),(aP.r x.dh)⟩
def bW.row (x:bW):List L:=dV.enc x.r
def bW.zero:bW:=⟨0,ah.zero,ah.zero,aP.zero,aP.zero⟩
def bW.cP {a b:bW}(h:a.r=b.r):a=b:=by
 cases a;cases b
 simp only [bW.r,dV.mk.injEq] at h
 obtain ⟨h0,h1,h2,h3,h4⟩:=h
 simp only [bW.mk.injEq]
 exact ⟨h0,(ah.cP h1),(ah.cP h2),(aP.cP h3),(aP.cP h4)⟩
def bW.cL {a b:bW}(h:bW.row a=bW.row b):a=b:=bW.cP (congrArg dV.dec h)
def bW.cY {xs:List bW}{i:Nat}:dV.at (xs.map bW.row) i=(xs.getD i bW.zero).r:=eu (r:=fun x=>bW.r x) (fun _=>rfl) rfl
def bW.yc (x:bW):(bW.r x).eG=x.eG:=Eq.trans rfl rfl
def bW.oW (x:bW):(bW.r x).aS=(ah.r x.aS):=Eq.trans rfl rfl
def bW.yf (x:bW):(bW.r x).cJ=(ah.r x.cJ):=Eq.trans rfl rfl
def bW.zQ (x:bW):(bW.r x).eI=(aP.r x.eI):=Eq.trans rfl rfl
def bW.ya (x:bW):(bW.r x).dh=(aP.r x.dh):=Eq.trans rfl rfl
instance :Row bW:=⟨bW.row,bW.cL⟩
instance :Im bW dV:=⟨bW.r,bW.cP⟩
def bW.rs:(∀(xs:List bW) (i:Nat),dV.at (xs.map bW.row) i=(xs.getD i bW.zero).r)/\(∀x:bW,(bW.r x).eG=x.eG)/\(∀x:bW,(bW.r x).aS=(ah.r x.aS))/\(∀x:bW,(bW.r x).cJ=(ah.r x.cJ))/\(∀x:bW,(bW.r x).eI=(aP.r x.eI))/\(∀x:bW,(bW.r x).dh=(aP.r x.dh)):=⟨fun _ _=>bW.cY,bW.yc,bW.oW,bW.yf,bW.zQ,bW.ya⟩
def bW.Sm (n:Nat)(x:bW):Prop:=ah.Sm n x.aS/\ah.Sm n x.cJ/\aP.Sm n x.eI/\aP.Sm n x.dh
def bW.size (x:bW):Nat:=ah.size x.aS+ah.size x.cJ+aP.size x.eI+aP.size x.dh
structure bp where
 aU:aD
 cA:Bool
 aV:bf
 eE:bT
 fc:dV
structure az where
 aU:List aa
 cA:Bool
 aV:ah
 eE:aP
 fc:bW
def bp.enc (x:bp):List L:=[.sl x.aU,.bool x.cA,.str x.aV.bn,.int x.aV.bM,.int x.aV.cq,.sl x.aV.bH,.int x.eE.eG,.sl x.eE.bH,.int x.fc.eG,.str x.fc.aS.bn,.int x.fc.aS.bM,.int x.fc.aS.cq,.sl x.fc.aS.bH,.str x.fc.cJ.bn,.int x.fc.cJ.bM,.int x.fc.cJ.cq,.sl x.fc.cJ.bH,.int x.fc.eI.eG,.sl x.fc.eI.bH,.int x.fc.dh.eG,.sl x.fc.dh.bH]
def bp.dec (r:List L):bp:=⟨((aA 0 r).headD .hole).aQ,((aA 1 r).headD .hole).toBool,⟨((aA 2 r).headD .hole).toStr,((aA 3 r).headD .hole).toInt,((aA 4 r).headD .hole).toInt,((aA 5 r).headD .hole).aQ⟩,⟨((aA 6 r).headD .hole).toInt,((aA 7 r).headD .hole).aQ⟩,⟨((aA 8 r).headD .hole).toInt,⟨((aA 9 r).headD .hole).toStr,((aA 10 r).headD .hole).toInt,((aA 11 r).headD .hole).toInt,((aA 12 r).headD .hole).aQ⟩,⟨((aA 13 r).headD .hole).toStr,((aA 14 r).headD .hole).toInt,((aA 15 r).headD .hole).toInt,((aA 16 r).headD .hole).aQ⟩,⟨((aA 17 r).headD .hole).toInt,((aA 18 r).headD .hole).aQ⟩,⟨((aA 19 r).headD .hole).toInt,((aA 20 r).headD .hole).aQ⟩⟩⟩
instance :RT bp:=⟨bp.enc,bp.dec,21,fun _ _=>rfl,fun _ _=>rfl⟩
def bp.at (xs:aD)(i:Nat):bp:=bp.dec (List.getD xs i [])
def az.r (x:az):bp:=⟨(x.aU.map aa.row),x.cA,(ah.r x.aV),(aP.r x.eE),(bW.r x.fc)⟩
def az.row (x:az):List L:=bp.enc x.r
def az.zero:az:=⟨[],false,ah.zero,aP.zero,bW.zero⟩
def az.cP {a b:az}(h:a.r=b.r):a=b:=by
 cases a;cases b
 simp only [az.r,bp.mk.injEq] at h
 obtain ⟨h0,h1,h2,h3,h4⟩:=h
 simp only [az.mk.injEq]
 exact ⟨(map_inj aa.cL h0),h1,(ah.cP h2),(aP.cP h3),(bW.cP h4)⟩
def az.cL {a b:az}(h:az.row a=az.row b):a=b:=az.cP (congrArg bp.dec h)
def az.cY {xs:List az}{i:Nat}:bp.at (xs.map az.row) i=(xs.getD i az.zero).r:=eu (r:=fun x=>az.r x) (fun _=>rfl) rfl
def az.qp (x:az):(az.r x).aU=(x.aU.map aa.row):=Eq.trans rfl rfl
def az.qn (x:az):(az.r x).cA=x.cA:=Eq.trans rfl rfl
def az.iG (x:az):(az.r x).aV=(ah.r x.aV):=Eq.trans rfl rfl
def az.xQ (x:az):(az.r x).eE=(aP.r x.eE):=Eq.trans rfl rfl
def az.Am (x:az):(az.r x).fc=(bW.r x.fc):=Eq.trans rfl rfl
instance :Row az:=⟨az.row,az.cL⟩
instance :Im az bp:=⟨az.r,az.cP⟩
def az.rs:(∀(xs:List az) (i:Nat),bp.at (xs.map az.row) i=(xs.getD i az.zero).r)/\(∀x:az,(az.r x).aU=(x.aU.map aa.row))/\(∀x:az,(az.r x).cA=x.cA)/\(∀x:az,(az.r x).aV=(ah.r x.aV))/\(∀x:az,(az.r x).eE=(aP.r x.eE))/\(∀x:az,(az.r x).fc=(bW.r x.fc)):=⟨fun _ _=>az.cY,az.qp,az.qn,az.iG,az.xQ,az.Am⟩
def az.Sm (n:Nat)(x:az):Prop:=bO n (fun y:aa=>aa.Sm n y) x.aU/\ah.Sm n x.aV/\aP.Sm n x.eE/\bW.Sm n x.fc
def az.size (x:az):Nat:=dP (fun y:aa=>aa.size y) x.aU+ah.size x.aV+aP.size x.eE+bW.size x.fc
structure fL where
 bz:Int
 bn:aE
 ep:bp
structure cC where
 bz:Int
 bn:aE
 ep:az
def fL.enc (x:fL):List L:=[.int x.bz,.str x.bn,.sl x.ep.aU,.bool x.ep.cA,.str x.ep.aV.bn,.int x.ep.aV.bM,.int x.ep.aV.cq,.sl x.ep.aV.bH,.int x.ep.eE.eG,.sl x.ep.eE.bH,.int x.ep.fc.eG,.str x.ep.fc.aS.bn,.int x.ep.fc.aS.bM,.int x.ep.fc.aS.cq,.sl x.ep.fc.aS.bH,.str x.ep.fc.cJ.bn,.int x.ep.fc.cJ.bM,.int x.ep.fc.cJ.cq,.sl x.ep.fc.cJ.bH,.int x.ep.fc.eI.eG,.sl x.ep.fc.eI.bH,.int x.ep.fc.dh.eG,.sl x.ep.fc.dh.bH]
def fL.dec (r:List L):fL:=⟨((aA 0 r).headD .hole).toInt,((aA 1 r).headD .hole).toStr,⟨((aA 2 r).headD .hole).aQ,((aA 3 r).headD .hole).toBool,⟨((aA 4 r).headD .hole).toStr,((aA 5 r).headD .hole).toInt,((aA 6 r).headD .hole).toInt,((aA 7 r).headD .hole).aQ⟩,⟨((aA 8 r).headD .hole).toInt,((aA 9 r).headD .hole).aQ⟩,⟨((aA 10 r).headD .hole).toInt,⟨((aA 11 r).headD .hole).toStr,((aA 12 r).headD .hole).toInt,((aA 13 r).headD .hole).toInt,((aA 14 r).headD .hole).aQ⟩,⟨((aA 15 r).headD .hole).toStr,((aA 16 r).headD .hole).toInt,((aA 17 r).headD .hole).toInt,((aA 18 r).headD .hole).aQ⟩,⟨((aA 19 r).headD .hole).toInt,((aA 20 r).headD .hole).aQ⟩,⟨((aA 21 r).headD .hole).toInt,((aA 22 r).headD .hole).aQ⟩⟩⟩⟩
instance :RT fL:=⟨fL.enc,fL.dec,23,fun _ _=>rfl,fun _ _=>rfl⟩
def fL.at (xs:aD)(i:Nat):fL:=fL.dec (List.getD xs i [])
def cC.r (x:cC):fL:=⟨x.bz,x.bn,(az.r x.ep)⟩
def cC.row (x:cC):List L:=fL.enc x.r
def cC.zero:cC:=⟨0,⟨#[]⟩,az.zero⟩
def cC.cP {a b:cC}(h:a.r=b.r):a=b:=by
 cases a;cases b
 simp only [cC.r,fL.mk.injEq] at h
 obtain ⟨h0,h1,h2⟩:=h
 simp only [cC.mk.injEq]
 exact ⟨h0,h1,(az.cP h2)⟩
def cC.cL {a b:cC}(h:cC.row a=cC.row b):a=b:=cC.cP (congrArg fL.dec h)
def cC.cY {xs:List cC}{i:Nat}:fL.at (xs.map cC.row) i=(xs.getD i cC.zero).r:=eu (r:=fun x=>cC.r x) (fun _=>rfl) rfl
def cC.sR (x:cC):(cC.r x).bz=x.bz:=Eq.trans rfl rfl
def cC.qC (x:cC):(cC.r x).bn=x.bn:=Eq.trans rfl rfl
def cC.xe (x:cC):(cC.r x).ep=(az.r x.ep):=Eq.trans rfl rfl
instance :Row cC:=⟨cC.row,cC.cL⟩
instance :Im cC fL:=⟨cC.r,cC.cP⟩
def cC.rs:(∀(xs:List cC) (i:Nat),fL.at (xs.map cC.row) i=(xs.getD i cC.zero).r)/\(∀x:cC,(cC.r x).bz=x.bz)/\(∀x:cC,(cC.r x).bn=x.bn)/\(∀x:cC,(cC.r x).ep=(az.r x.ep)):=⟨fun _ _=>cC.cY,cC.sR,cC.qC,cC.xe⟩
structure gC where
 aX:aD
structure dG where
 aX:List cC
def gC.enc (x:gC):List L:=[.sl x.aX]
def gC.dec (r:List L):gC:=⟨((aA 0 r).headD .hole).aQ⟩
instance :RT gC:=⟨gC.enc,gC.dec,1,fun _ _=>rfl,fun _ _=>rfl⟩
def gC.at (xs:aD)(i:Nat):gC:=gC.dec (List.getD xs i [])
def dG.r (x:dG):gC:=⟨(x.aX.map cC.row)⟩
def dG.row (x:dG):List L:=gC.enc x.r
def dG.zero:dG:=⟨[]⟩
def dG.cP {a b:dG}(h:a.r=b.r):a=b:=by
 cases a;cases b
 simp only [dG.r,gC.mk.injEq] at h
 have h0:=h
 simp only [dG.mk.injEq]
 exact (map_inj cC.cL h0)
def dG.cL {a b:dG}(h:dG.row a=dG.row b):a=b:=dG.cP (congrArg gC.dec h)
def dG.cY {xs:List dG}{i:Nat}:gC.at (xs.map dG.row) i=(xs.getD i dG.zero).r:=eu (r:=fun x=>dG.r x) (fun _=>rfl) rfl
def dG.tK (x:dG):(dG.r x).aX=(x.aX.map cC.row):=Eq.trans rfl rfl
instance :Row dG:=⟨dG.row,dG.cL⟩
instance :Im dG gC:=⟨dG.r,dG.cP⟩
def dG.rs:(∀(xs:List dG) (i:Nat),gC.at (xs.map dG.row) i=(xs.getD i dG.zero).r)/\(∀x:dG,(dG.r x).aX=(x.aX.map cC.row)):=⟨fun _ _=>dG.cY,dG.tK⟩
structure cO where
 bR:bt
 gF:Int
 aV:bf
 bK:aD
 gO:Int
structure aM where
 bR:aj
 gF:Int
 aV:ah
 bK:List Int
 gO:Int
def cO.enc (x:cO):List L:=[.sl x.bR.aH,.sl x.bR.aY,.int x.gF,.str x.aV.bn,.int x.aV.bM,.int x.aV.cq,.sl x.aV.bH,.sl x.bK,.int x.gO]
def cO.dec (r:List L):cO:=⟨⟨((aA 0 r).headD .hole).aQ,((aA 1 r).headD .hole).aQ⟩,((aA 2 r).headD .hole).toInt,⟨((aA 3 r).headD .hole).toStr,((aA 4 r).headD .hole).toInt,((aA 5 r).headD .hole).toInt,((aA 6 r).headD .hole).aQ⟩,((aA 7 r).headD .hole).aQ,((aA 8 r).headD .hole).toInt⟩
instance :RT cO:=⟨cO.enc,cO.dec,9,fun _ _=>rfl,fun _ _=>rfl⟩
def cO.at (xs:aD)(i:Nat):cO:=cO.dec (List.getD xs i [])
def aM.r (x:aM):cO:=⟨(aj.r x.bR),x.gF,(ah.r x.aV),(x.bK.map bu),x.gO⟩
def aM.row (x:aM):List L:=cO.enc x.r
def aM.zero:aM:=⟨aj.zero,0,ah.zero,[],0⟩
def aM.cP {a b:aM}(h:a.r=b.r):a=b:=by
 cases a;cases b
 simp only [aM.r,cO.mk.injEq] at h
 obtain ⟨h0,h1,h2,h3,h4⟩:=h
 simp only [aM.mk.injEq]
 exact ⟨(aj.cP h0),h1,(ah.cP h2),(map_inj kY h3),h4⟩
def aM.cL {a b:aM}(h:aM.row a=aM.row b):a=b:=aM.cP (congrArg cO.dec h)
def aM.ec {xs:List aM}{i:Nat}(h:i<xs.length):cO.at (xs.map aM.row) i=(xs[i]).r:=by unfold cO.at;rw [getD_map h];rfl
def aM.cY {xs:List aM}{i:Nat}:cO.at (xs.map aM.row) i=(xs.getD i aM.zero).r:=eu (r:=fun x=>aM.r x) (fun _=>rfl) rfl
def aM.qJ (x:aM):(aM.r x).bR=(aj.r x.bR):=Eq.trans rfl rfl
def aM.tB (x:aM):(aM.r x).gF=x.gF:=Eq.trans rfl rfl
def aM.iG (x:aM):(aM.r x).aV=(ah.r x.aV):=Eq.trans rfl rfl
def aM.rm (x:aM):(aM.r x).bK=(x.bK.map bu):=Eq.trans rfl rfl
def aM.yZ (x:aM):(aM.r x).gO=x.gO:=Eq.trans rfl rfl
instance :Row aM:=⟨aM.row,aM.cL⟩
instance :Im aM cO:=⟨aM.r,aM.cP⟩
def aM.rs:(∀(xs:List aM) (i:Nat),cO.at (xs.map aM.row) i=(xs.getD i aM.zero).r)/\(∀x:aM,(aM.r x).bR=(aj.r x.bR))/\(∀x:aM,(aM.r x).gF=x.gF)/\(∀x:aM,(aM.r x).aV=(ah.r x.aV))/\(∀x:aM,(aM.r x).bK=(x.bK.map bu))/\(∀x:aM,(aM.r x).gO=x.gO):=⟨fun _ _=>aM.cY,aM.qJ,aM.tB,aM.iG,aM.rm,aM.yZ⟩
def aM.Sm (n:Nat)(x:aM):Prop:=aj.Sm n x.bR/\ah.Sm n x.aV/\bO n (fun y:Int=>True) x.bK
def aM.size (x:aM):Nat:=aj.size x.bR+ah.size x.aV+dP (fun y:Int=>0) x.bK
structure iT where
 ig:cO
 nu:gC
structure eA where
 ig:aM
 nu:dG
def iT.enc (x:iT):List L:=[.sl x.ig.bR.aH,.sl x.ig.bR.aY,.int x.ig.gF,.str x.ig.aV.bn,.int x.ig.aV.bM,.int x.ig.aV.cq,.sl x.ig.aV.bH,.sl x.ig.bK,.int x.ig.gO,.sl x.nu.aX]
def iT.dec (r:List L):iT:=⟨⟨⟨((aA 0 r).headD .hole).aQ,((aA 1 r).headD .hole).aQ⟩,((aA 2 r).headD .hole).toInt,⟨((aA 3 r).headD .hole).toStr,((aA 4 r).headD .hole).toInt,((aA 5 r).headD .hole).toInt,((aA 6 r).headD .hole).aQ⟩,((aA 7 r).headD .hole).aQ,((aA 8 r).headD .hole).toInt⟩,⟨((aA 9 r).headD .hole).aQ⟩⟩
instance :RT iT:=⟨iT.enc,iT.dec,10,fun _ _=>rfl,fun _ _=>rfl⟩
def iT.at (xs:aD)(i:Nat):iT:=iT.dec (List.getD xs i [])
def eA.r (x:eA):iT:=⟨(aM.r x.ig),(dG.r x.nu)⟩
def eA.row (x:eA):List L:=iT.enc x.r
def eA.zero:eA:=⟨aM.zero,dG.zero⟩
def eA.cP {a b:eA}(h:a.r=b.r):a=b:=by
 cases a;cases b
 simp only [eA.r,iT.mk.injEq] at h
 obtain ⟨h0,h1⟩:=h
 simp only [eA.mk.injEq]
 exact ⟨(aM.cP h0),(dG.cP h1)⟩
def eA.cL {a b:eA}(h:eA.row a=eA.row b):a=b:=eA.cP (congrArg iT.dec h)
def eA.cY {xs:List eA}{i:Nat}:iT.at (xs.map eA.row) i=(xs.getD i eA.zero).r:=eu (r:=fun x=>eA.r x) (fun _=>rfl) rfl
def eA.xU (x:eA):(eA.r x).ig=(aM.r x.ig):=Eq.trans rfl rfl
def eA.yA (x:eA):(eA.r x).nu=(dG.r x.nu):=Eq.trans rfl rfl
instance :Row eA:=⟨eA.row,eA.cL⟩
instance :Im eA iT:=⟨eA.r,eA.cP⟩
def eA.rs:(∀(xs:List eA) (i:Nat),iT.at (xs.map eA.row) i=(xs.getD i eA.zero).r)/\(∀x:eA,(eA.r x).ig=(aM.r x.ig))/\(∀x:eA,(eA.r x).nu=(dG.r x.nu)):=⟨fun _ _=>eA.cY,eA.xU,eA.yA⟩
structure iS where
 qx:Int
 bQ:bF
 bM:Int
structure dU where
 qx:Int
 bQ:aO
 bM:Int
def iS.enc (x:iS):List L:=[.int x.qx,.sl x.bQ.aX,.int x.bQ.cH,.int x.bM]
def iS.dec (r:List L):iS:=⟨((aA 0 r).headD .hole).toInt,⟨((aA 1 r).headD .hole).aQ,((aA 2 r).headD .hole).toInt⟩,((aA 3 r).headD .hole).toInt⟩
instance :RT iS:=⟨iS.enc,iS.dec,4,fun _ _=>rfl,fun _ _=>rfl⟩
def iS.at (xs:aD)(i:Nat):iS:=iS.dec (List.getD xs i [])
def dU.r (x:dU):iS:=⟨x.qx,(aO.r x.bQ),x.bM⟩
def dU.row (x:dU):List L:=iS.enc x.r
def dU.zero:dU:=⟨0,aO.zero,0⟩
def dU.cP {a b:dU}(h:a.r=b.r):a=b:=by
 cases a;cases b
 simp only [dU.r,iS.mk.injEq] at h
 obtain ⟨h0,h1,h2⟩:=h
 simp only [dU.mk.injEq]
 exact ⟨h0,(aO.cP h1),h2⟩
def dU.cL {a b:dU}(h:dU.row a=dU.row b):a=b:=dU.cP (congrArg iS.dec h)
def dU.cY {xs:List dU}{i:Nat}:iS.at (xs.map dU.row) i=(xs.getD i dU.zero).r:=eu (r:=fun x=>dU.r x) (fun _=>rfl) rfl
def dU.zO (x:dU):(dU.r x).qx=x.qx:=Eq.trans rfl rfl
def dU.th (x:dU):(dU.r x).bQ=(aO.r x.bQ):=Eq.trans rfl rfl
def dU.ow (x:dU):(dU.r x).bM=x.bM:=Eq.trans rfl rfl
instance :Row dU:=⟨dU.row,dU.cL⟩
instance :Im dU iS:=⟨dU.r,dU.cP⟩
def dU.rs:(∀(xs:List dU) (i:Nat),iS.at (xs.map dU.row) i=(xs.getD i dU.zero).r)/\(∀x:dU,(dU.r x).qx=x.qx)/\(∀x:dU,(dU.r x).bQ=(aO.r x.bQ))/\(∀x:dU,(dU.r x).bM=x.bM):=⟨fun _ _=>dU.cY,dU.zO,dU.th,dU.ow⟩
structure eH where
 gF:Int
 aV:bf
 kW:aD
structure bX where
 gF:Int
 aV:ah
 kW:List ah
def eH.enc (x:eH):List L:=[.int x.gF,.str x.aV.bn,.int x.aV.bM,.int x.aV.cq,.sl x.aV.bH,.sl x.kW]
def eH.dec (r:List L):eH:=⟨((aA 0 r).headD .hole).toInt,⟨((aA 1 r).headD .hole).toStr,((aA 2 r).headD .hole).toInt,((aA 3 r).headD .hole).toInt,((aA 4 r).headD .hole).aQ⟩,((aA 5 r).headD .hole).aQ⟩
instance :RT eH:=⟨eH.enc,eH.dec,6,fun _ _=>rfl,fun _ _=>rfl⟩
def eH.at (xs:aD)(i:Nat):eH:=eH.dec (List.getD xs i [])
def bX.r (x:bX):eH:=⟨x.gF,(ah.r x.aV),(x.kW.map ah.row)⟩
def bX.row (x:bX):List L:=eH.enc x.r
def bX.zero:bX:=⟨0,ah.zero,[]⟩
def bX.cP {a b:bX}(h:a.r=b.r):a=b:=by
 cases a;cases b
 simp only [bX.r,eH.mk.injEq] at h
 obtain ⟨h0,h1,h2⟩:=h
 simp only [bX.mk.injEq]
 exact ⟨h0,(ah.cP h1),(map_inj ah.cL h2)⟩
def bX.cL {a b:bX}(h:bX.row a=bX.row b):a=b:=bX.cP (congrArg eH.dec h)
def bX.cY {xs:List bX}{i:Nat}:eH.at (xs.map bX.row) i=(xs.getD i bX.zero).r:=eu (r:=fun x=>bX.r x) (fun _=>rfl) rfl
def bX.tB (x:bX):(bX.r x).gF=x.gF:=Eq.trans rfl rfl
def bX.iG (x:bX):(bX.r x).aV=(ah.r x.aV):=Eq.trans rfl rfl
def bX.xx (x:bX):(bX.r x).kW=(x.kW.map ah.row):=Eq.trans rfl rfl
instance :Row bX:=⟨bX.row,bX.cL⟩
instance :Im bX eH:=⟨bX.r,bX.cP⟩
def bX.rs:(∀(xs:List bX) (i:Nat),eH.at (xs.map bX.row) i=(xs.getD i bX.zero).r)/\(∀x:bX,(bX.r x).gF=x.gF)/\(∀x:bX,(bX.r x).aV=(ah.r x.aV))/\(∀x:bX,(bX.r x).kW=(x.kW.map ah.row)):=⟨fun _ _=>bX.cY,bX.tB,bX.iG,bX.xx⟩
structure dx where
 bR:bt
 cA:Bool
 aV:bf
 kC:Bool
 kQ:aD
structure bU where
 bR:aj
 cA:Bool
 aV:ah
 kC:Bool
 kQ:List Int
def dx.enc (x:dx):List L:=[.sl x.bR.aH,.sl x.bR.aY,.bool x.cA,.str x.aV.bn,.int x.aV.bM,.int x.aV.cq,.sl x.aV.bH,.bool x.kC,.sl x.kQ]
def dx.dec (r:List L):dx:=⟨⟨((aA 0 r).headD .hole).aQ,((aA 1 r).headD .hole).aQ⟩,((aA 2 r).headD .hole).toBool,⟨((aA 3 r).headD .hole).toStr,((aA 4 r).headD .hole).toInt,((aA 5 r).headD .hole).toInt,((aA 6 r).headD .hole).aQ⟩,((aA 7 r).headD .hole).toBool,((aA 8 r).headD .hole).aQ⟩
instance :RT dx:=⟨dx.enc,dx.dec,9,fun _ _=>rfl,fun _ _=>rfl⟩
def dx.at (xs:aD)(i:Nat):dx:=dx.dec (List.getD xs i [])
def bU.r (x:bU):dx:=⟨(aj.r x.bR),x.cA,(ah.r x.aV),x.kC,(x.kQ.map bu)⟩
def bU.row (x:bU):List L:=dx.enc x.r
def bU.zero:bU:=⟨aj.zero,false,ah.zero,false,[]⟩
def bU.cP {a b:bU}(h:a.r=b.r):a=b:=by
 cases a;cases b
 simp only [bU.r,dx.mk.injEq] at h
 obtain ⟨h0,h1,h2,h3,h4⟩:=h
 simp only [bU.mk.injEq]
 exact ⟨(aj.cP h0),h1,(ah.cP h2),h3,(map_inj kY h4)⟩
def bU.cL {a b:bU}(h:bU.row a=bU.row b):a=b:=bU.cP (congrArg dx.dec h)
def bU.cY {xs:List bU}{i:Nat}:dx.at (xs.map bU.row) i=(xs.getD i bU.zero).r:=eu (r:=fun x=>bU.r x) (fun _=>rfl) rfl
def bU.qJ (x:bU):(bU.r x).bR=(aj.r x.bR):=Eq.trans rfl rfl
def bU.qn (x:bU):(bU.r x).cA=x.cA:=Eq.trans rfl rfl
def bU.iG (x:bU):(bU.r x).aV=(ah.r x.aV):=Eq.trans rfl rfl
def bU.zP (x:bU):(bU.r x).kC=x.kC:=Eq.trans rfl rfl
def bU.xJ (x:bU):(bU.r x).kQ=(x.kQ.map bu):=Eq.trans rfl rfl
instance :Row bU:=⟨bU.row,bU.cL⟩
instance :Im bU dx:=⟨bU.r,bU.cP⟩
def bU.rs:(∀(xs:List bU) (i:Nat),dx.at (xs.map bU.row) i=(xs.getD i bU.zero).r)/\(∀x:bU,(bU.r x).bR=(aj.r x.bR))/\(∀x:bU,(bU.r x).cA=x.cA)/\(∀x:bU,(bU.r x).aV=(ah.r x.aV))/\(∀x:bU,(bU.r x).kC=x.kC)/\(∀x:bU,(bU.r x).kQ=(x.kQ.map bu)):=⟨fun _ _=>bU.cY,bU.qJ,bU.qn,bU.iG,bU.zP,bU.xJ⟩
def bU.Sm (n:Nat)(x:bU):Prop:=aj.Sm n x.bR/\ah.Sm n x.aV/\bO n (fun y:Int=>True) x.kQ
structure gB where
 fName:aE
 bz:Int
def gB.enc (x:gB):List L:=[.str x.fName,.int x.bz]
def gB.dec (r:List L):gB:=⟨((aA 0 r).headD .hole).toStr,((aA 1 r).headD .hole).toInt⟩
instance :RT gB:=⟨gB.enc,gB.dec,2,fun _ _=>rfl,fun _ _=>rfl⟩
def gB.at (xs:aD)(i:Nat):gB:=gB.dec (List.getD xs i [])
def gB.row (x:gB):List L:=gB.enc x
def gB.zero:gB:=⟨⟨#[]⟩,0⟩
def gB.cL {a b:gB}(h:gB.row a=gB.row b):a=b:=congrArg gB.dec h
def gB.cY {xs:List gB}{i:Nat}:gB.at (xs.map gB.row) i=xs.getD i gB.zero:=eu (r:=fun x=>x) (fun _=>rfl) rfl
instance :Row gB:=⟨gB.row,gB.cL⟩
instance :Im gB gB:=⟨fun x=>x,fun h=>h⟩
def gB.rs:(∀(xs:List gB) (i:Nat),gB.at (xs.map gB.row) i=xs.getD i gB.zero):=fun _ _=>gB.cY
structure dS where
 aU:aD
 bP:aD
structure aN where
 aU:List aa
 bP:List ah
def dS.enc (x:dS):List L:=[.sl x.aU,.sl x.bP]
def dS.dec (r:List L):dS:=⟨((aA 0 r).headD .hole).aQ,((aA 1 r).headD .hole).aQ⟩
instance :RT dS:=⟨dS.enc,dS.dec,2,fun _ _=>rfl,fun _ _=>rfl⟩
def dS.at (xs:aD)(i:Nat):dS:=dS.dec (List.getD xs i [])
def aN.r (x:aN):dS:=⟨(x.aU.map aa.row),(x.bP.map ah.row)⟩
def aN.row (x:aN):List L:=dS.enc x.r
def aN.zero:aN:=⟨[],[]⟩
def aN.cP {a b:aN}(h:a.r=b.r):a=b:=by
 cases a;cases b
 simp only [aN.r,dS.mk.injEq] at h
 obtain ⟨h0,h1⟩:=h
 simp only [aN.mk.injEq]
 exact ⟨(map_inj aa.cL h0),(map_inj ah.cL h1)⟩
def aN.cL {a b:aN}(h:aN.row a=aN.row b):a=b:=aN.cP (congrArg dS.dec h)
def aN.ec {xs:List aN}{i:Nat}(h:i<xs.length):dS.at (xs.map aN.row) i=(xs[i]).r:=by unfold dS.at;rw [getD_map h];rfl
def aN.cY {xs:List aN}{i:Nat}:dS.at (xs.map aN.row) i=(xs.getD i aN.zero).r:=eu (r:=fun x=>aN.r x) (fun _=>rfl) rfl
def aN.qp (x:aN):(aN.r x).aU=(x.aU.map aa.row):=Eq.trans rfl rfl
def aN.vH (x:aN):(aN.r x).bP=(x.bP.map ah.row):=Eq.trans rfl rfl
instance :Row aN:=⟨aN.row,aN.cL⟩
instance :Im aN dS:=⟨aN.r,aN.cP⟩
def aN.rs:(∀(xs:List aN) (i:Nat),dS.at (xs.map aN.row) i=(xs.getD i aN.zero).r)/\(∀x:aN,(aN.r x).aU=(x.aU.map aa.row))/\(∀x:aN,(aN.r x).bP=(x.bP.map ah.row)):=⟨fun _ _=>aN.cY,aN.qp,aN.vH⟩
def aN.Sm (n:Nat)(x:aN):Prop:=bO n (fun y:aa=>aa.Sm n y) x.aU/\bO n (fun y:ah=>ah.Sm n y) x.bP
def aN.size (x:aN):Nat:=dP (fun y:aa=>aa.size y) x.aU+dP (fun y:ah=>ah.size y) x.bP
def aN.cU {n m:Nat}(hn:n<=m){x:aN}(h:aN.Sm n x):aN.Sm m x:=⟨h.1.mono hn (fun x hx=>aa.cU hn hx),h.2.mono hn (fun x hx=>ah.cU hn hx)⟩
def aN.gj {n:Nat}{x:aN}(h:x.size<=n):aN.Sm n x:=by
 unfold aN.size at h
 have g0:dP (fun y:aa=>aa.size y) x.aU<=n:=by omega
 have g1:dP (fun y:ah=>ah.size y) x.bP<=n:=by omega
 exact ⟨ji g0 (fun x hx=>aa.gj hx),ji g1 (fun x hx=>ah.gj hx)⟩
structure cR where
 bK:aD
 gS:Int
structure av where
 bK:List aN
 gS:Int
def cR.enc (x:cR):List L:=[.sl x.bK,.int x.gS]
def cR.dec (r:List L):cR:=⟨((aA 0 r).headD .hole).aQ,((aA 1 r).headD .hole).toInt⟩
instance :RT cR:=⟨cR.enc,cR.dec,2,fun _ _=>rfl,fun _ _=>rfl⟩
def cR.at (xs:aD)(i:Nat):cR:=cR.dec (List.getD xs i [])
def av.r (x:av):cR:=⟨(x.bK.map aN.row),x.gS⟩
def av.row (x:av):List L:=cR.enc x.r
def av.zero:av:=⟨[],0⟩
def av.cP {a b:av}(h:a.r=b.r):a=b:=by
 cases a;cases b
 simp only [av.r,cR.mk.injEq] at h
 obtain ⟨h0,h1⟩:=h
 simp only [av.mk.injEq]
 exact ⟨(map_inj aN.cL h0),h1⟩
def av.cL {a b:av}(h:av.row a=av.row b):a=b:=av.cP (congrArg cR.dec h)
def av.ec {xs:List av}{i:Nat}(h:i<xs.length):cR.at (xs.map av.row) i=(xs[i]).r:=by unfold cR.at;rw [getD_map h];rfl
def av.cY {xs:List av}{i:Nat}:cR.at (xs.map av.row) i=(xs.getD i av.zero).r:=eu (r:=fun x=>av.r x) (fun _=>rfl) rfl
def av.rm (x:av):(av.r x).bK=(x.bK.map aN.row):=Eq.trans rfl rfl
def av.AF (x:av):(av.r x).gS=x.gS:=Eq.trans rfl rfl
instance :Row av:=⟨av.row,av.cL⟩
instance :Im av cR:=⟨av.r,av.cP⟩
def av.rs:(∀(xs:List av) (i:Nat),cR.at (xs.map av.row) i=(xs.getD i av.zero).r)/\(∀x:av,(av.r x).bK=(x.bK.map aN.row))/\(∀x:av,(av.r x).gS=x.gS):=⟨fun _ _=>av.cY,av.rm,av.AF⟩
def av.Sm (n:Nat)(x:av):Prop:=bO n (fun y:aN=>aN.Sm n y) x.bK
def av.size (x:av):Nat:=dP (fun y:aN=>aN.size y) x.bK
def av.cU {n m:Nat}(hn:n<=m){x:av}(h:av.Sm n x):av.Sm m x:=h.mono hn (fun x hx=>aN.cU hn hx)
def av.gj {n:Nat}{x:av}(h:x.size<=n):av.Sm n x:=by
 unfold av.size at h
 have g0:dP (fun y:aN=>aN.size y) x.bK<=n:=by omega
 exact ji g0 (fun x hx=>aN.gj hx)
structure bk where
 fName:aE
 bz:Int
def bk.enc (x:bk):List L:=[.str x.fName,.int x.bz]
def bk.dec (r:List L):bk:=⟨((aA 0 r).headD .hole).toStr,((aA 1 r).headD .hole).toInt⟩
instance :RT bk:=⟨bk.enc,bk.dec,2,fun _ _=>rfl,fun _ _=>rfl⟩
def bk.at (xs:aD)(i:Nat):bk:=bk.dec (List.getD xs i [])
def bk.row (x:bk):List L:=bk.enc x
def bk.zero:bk:=⟨⟨#[]⟩,0⟩
def bk.cL {a b:bk}(h:bk.row a=bk.row b):a=b:=congrArg bk.dec h
def bk.ec {xs:List bk}{i:Nat}(h:i<xs.length):bk.at (xs.map bk.row) i=xs[i]:=by unfold bk.at;rw [getD_map h];rfl
def bk.cY {xs:List bk}{i:Nat}:bk.at (xs.map bk.row) i=xs.getD i bk.zero:=eu (r:=fun x=>x) (fun _=>rfl) rfl
instance :Row bk:=⟨bk.row,bk.cL⟩
instance :Im bk bk:=⟨fun x=>x,fun h=>h⟩
def bk.rs:(∀(xs:List bk) (i:Nat),bk.at (xs.map bk.row) i=xs.getD i bk.zero):=fun _ _=>bk.cY
def bk.Sm (n:Nat)(x:bk):Prop:=(x.fName).size<=n
def bk.size (x:bk):Nat:=(x.fName).size
def bk.cU {n m:Nat}(hn:n<=m){x:bk}(h:bk.Sm n x):bk.Sm m x:=Nat.le_trans h hn
def bk.gj {n:Nat}{x:bk}(h:x.size<=n):bk.Sm n x:=by
 unfold bk.size at h
 have g0:(x.fName).size<=n:=by omega
 exact g0
structure fM where
 bH:aD
 aV:bf
structure cW where
 bH:List aE
 aV:ah
def fM.enc (x:fM):List L:=[.sl x.bH,.str x.aV.bn,.int x.aV.bM,.int x.aV.cq,.sl x.aV.bH]
def fM.dec (r:List L):fM:=⟨((aA 0 r).headD .hole).aQ,⟨((aA 1 r).headD .hole).toStr,((aA 2 r).headD .hole).toInt,((aA 3 r).headD .hole).toInt,((aA 4 r).headD .hole).aQ⟩⟩
instance :RT fM:=⟨fM.enc,fM.dec,5,fun _ _=>rfl,fun _ _=>rfl⟩
def fM.at (xs:aD)(i:Nat):fM:=fM.dec (List.getD xs i [])
def cW.r (x:cW):fM:=⟨(x.bH.map cI),(ah.r x.aV)⟩
def cW.row (x:cW):List L:=fM.enc x.r
def cW.zero:cW:=⟨[],ah.zero⟩
def cW.cP {a b:cW}(h:a.r=b.r):a=b:=by
 cases a;cases b
 simp only [cW.r,fM.mk.injEq] at h
 obtain ⟨h0,h1⟩:=h
 simp only [cW.mk.injEq]
 exact ⟨(map_inj qw h0),(ah.cP h1)⟩
def cW.cL {a b:cW}(h:cW.row a=cW.row b):a=b:=cW.cP (congrArg fM.dec h)
def cW.cY {xs:List cW}{i:Nat}:fM.at (xs.map cW.row) i=(xs.getD i cW.zero).r:=eu (r:=fun x=>cW.r x) (fun _=>rfl) rfl
def cW.nX (x:cW):(cW.r x).bH=(x.bH.map cI):=Eq.trans rfl rfl
def cW.iG (x:cW):(cW.r x).aV=(ah.r x.aV):=Eq.trans rfl rfl
instance :Row cW:=⟨cW.row,cW.cL⟩
instance :Im cW fM:=⟨cW.r,cW.cP⟩
def cW.rs:(∀(xs:List cW) (i:Nat),fM.at (xs.map cW.row) i=(xs.getD i cW.zero).r)/\(∀x:cW,(cW.r x).bH=(x.bH.map cI))/\(∀x:cW,(cW.r x).aV=(ah.r x.aV)):=⟨fun _ _=>cW.cY,cW.nX,cW.iG⟩
def SS:=And.intro (And.intro S0 MM) (And.intro aO.rs (And.intro aG.rs (And.intro bw.rs (And.intro aa.rs (And.intro aB.rs (And.intro aj.rs (And.intro ah.rs (And.intro aP.rs (And.intro bW.rs (And.intro az.rs (And.intro cC.rs (And.intro dG.rs (And.intro aM.rs (And.intro eA.rs (And.intro dU.rs (And.intro bX.rs (And.intro bU.rs (And.intro gB.rs (And.intro aN.rs (And.intro av.rs (And.intro bk.rs (And.intro cW.rs trivial))))))))))))))))))))))
def fz {p:Prop}(h:p:=by first | rfl | (simp only [SS];done) | (simp only [MP];rfl) | (simp only [SS,MP];first | done | rfl) | (simp only [aO.r,aG.r,aa.r,aB.r,aj.r,ah.r,aP.r,bW.r,az.r,cC.r,dG.r,aM.r,eA.r,dU.r,bX.r,bU.r,aN.r,av.r,cW.r,SS,MP];first | done | rfl) | (simp only [SS,MP,List.length_take,List.length_drop];first | done | rfl)):p:=h
def rq {p q:Prop}(h:p)(k:p->q:=by intro R_;first | exact R_ | (simp only [MP,SS] at R_ ⊢;first | exact R_ | (rw [<-R_];rfl))):q:=k h
end Go.DM

end
